import PyProof.Rows.All
import Wide.All
import OpenK.AllK
import Wide.FinOn
import HandS.ForExc
import HandS.Comp
import HandS.Dict
import HandS.Iter
import HandS.Text
import HandS.Wide
import HandS.Deep
import HandS.Zip
import HandS.Flow
import HandS.IsInst
import HandS.Defaults
import HandS.HeadEnd
import HandS.HeadHook4
import HandS.ExcCtx
import HandS.HotCalls
import HandS.ExcIs
import KE.KStateDown
import HandS.Head0
import HandS.Head1
import HandS.Head2
import HandS.HeadHook3
import PySem.Challenge.RW_boxnarrow_k11_numbers_written
set_option Elab.async false
set_option linter.all false
set_option maxRecDepth 100000
set_option maxHeartbeats 4000000
/-! Q: data (PyData, as Dp tells it) and cells over the hand layer: judgements that hide the heap. -/
namespace Dl
open PySem PySem.Spec PyProof.Rows L2

/-! ### data stands -/
def Ex (H H' : Hp) : Prop := ∀ a o, H a = some o → H' a = some o
theorem Ex.refl (H : Hp) : Ex H H := fun _ _ h => h
theorem Ex.trans {H H1 H2 : Hp} (a : Ex H H1) (b : Ex H1 H2) : Ex H H2 := fun x o h => b x o (a x o h)
theorem Ex.rd {H H' : Hp} {a : Addr} {u : HO} (e : Ex H H') (h : Rd H a u) : Rd H' a u := by
  rcases h with h | ⟨o, h⟩
  · exact .inl (e _ _ h)
  · exact .inr ⟨o, e _ _ h⟩
theorem Ex.sqL {K : PySem.W.Frag} {H H' : Hp} {a : Addr} {xs : List V} (e : Ex H H') (h : SqL K H a xs) : SqL K H' a xs := by
  rcases h with h | h
  · exact .inl (e.rd h)
  · exact .inr h
theorem Ex.sqT {K : PySem.W.Frag} {H H' : Hp} {a : Addr} {xs : List V} (e : Ex H H') (h : SqT K H a xs) : SqT K H' a xs := by
  rcases h with h | h
  · exact .inl (e.rd h)
  · exact .inr h
mutual
theorem dp_ex {K : PySem.W.Frag} {H H' : Hp} (e : Ex H H') : ∀ {v : V} {d : PyData}, Dp K H v d → Dp K H' v d
  | _, _, .non => .non
  | _, _, .bl b => .bl b
  | _, _, .int i => .int i
  | _, _, .str x => .str x
  | _, _, .lst h r => .lst (e.sqL h) (dpAll_ex e r)
  | _, _, .tup h r => .tup (e.sqT h) (dpAll_ex e r)
theorem dpAll_ex {K : PySem.W.Frag} {H H' : Hp} (e : Ex H H') : ∀ {v : List V} {d : List PyData}, DpAll K H v d → DpAll K H' v d
  | _, _, .nil => .nil
  | _, _, .cons h r => .cons (dp_ex e h) (dpAll_ex e r)
end

/-! ### values and cells -/
/-- a value: data that stands, or a cell (a list, a dict, an instance that may change) -/
inductive SV where
  | d (d : PyData) | c (a : Addr)
abbrev SV.int (i : Int) : SV := .d (.int i)
abbrev SV.str (x : Str) : SV := .d (.str x)
abbrev SV.bl (b : Bool) : SV := .d (.bool b)
abbrev SV.non : SV := .d .none
inductive Cell where
  | lst (xs : List SV) | dK (kvs : List (Key × SV)) | ins (C : Addr) (fs : List (Str × SV))
abbrev Cells := Addr → Option Cell
def cupd (C : Cells) (a : Addr) (c : Cell) : Cells := fun b => if b = a then some c else C b
theorem cupd_same {C : Cells} {a : Addr} {c : Cell} : cupd C a c a = some c := by unfold cupd; rw [if_pos rfl]
theorem cupd_ne {C : Cells} {a b : Addr} {c : Cell} (h : b ≠ a) : cupd C a c b = C b := by unfold cupd; rw [if_neg h]
theorem cupd_upd {C : Cells} {a : Addr} {c u : Cell} : cupd (cupd C a c) a u = cupd C a u := by
  funext b; unfold cupd; split <;> rfl
def cdel (C : Cells) (a : Addr) : Cells := fun b => if b = a then none else C b
theorem cdel_same {C : Cells} {a : Addr} : cdel C a a = none := by unfold cdel; rw [if_pos rfl]
theorem cdel_ne {C : Cells} {a b : Addr} (h : b ≠ a) : cdel C a b = C b := by unfold cdel; rw [if_neg h]
def SAt (K : PySem.W.Frag) (F : Hp) (v : V) : SV → Prop
  | .d d => Dp K F v d
  | .c a => v = .ref a
theorem SAt.ex {K : PySem.W.Frag} {F F' : Hp} (e : Ex F F') {v : V} : ∀ {s : SV}, SAt K F v s → SAt K F' v s
  | .d _, h => dp_ex e h
  | .c _, h => h
abbrev SAll (K : PySem.W.Frag) (F : Hp) : List V → List SV → Prop := Paired (SAt K F)
theorem Paired.imp {α β : Type} {f g : α → β → Prop} (h : ∀ a b, f a b → g a b) : ∀ {xs : List α} {ys : List β}, Paired f xs ys → Paired g xs ys
  | _, _, .nil => .nil
  | _, _, .cons r t => .cons (h _ _ r) (Paired.imp h t)
theorem SAll.ex {K : PySem.W.Frag} {F F' : Hp} (e : Ex F F') {vs : List V} {ss : List SV} (h : SAll K F vs ss) : SAll K F' vs ss := Paired.imp (fun _ _ => SAt.ex e) h
def FAll (K : PySem.W.Frag) (F : Hp) : List (Str × V) → List (Str × SV) → Prop := Paired fun p q => p.1 = q.1 ∧ SAt K F p.2 q.2
def KAll (K : PySem.W.Frag) (F : Hp) : List (Key × V) → List (Key × SV) → Prop := Paired fun p q => p.1 = q.1 ∧ SAt K F p.2 q.2
theorem FAll.ex {K : PySem.W.Frag} {F F' : Hp} (e : Ex F F') {vs : List (Str × V)} {ss : List (Str × SV)} (h : FAll K F vs ss) : FAll K F' vs ss := Paired.imp (fun _ _ z => ⟨z.1, SAt.ex e z.2⟩) h
theorem KAll.ex {K : PySem.W.Frag} {F F' : Hp} (e : Ex F F') {vs : List (Key × V)} {ss : List (Key × SV)} (h : KAll K F vs ss) : KAll K F' vs ss := Paired.imp (fun _ _ z => ⟨z.1, SAt.ex e z.2⟩) h
def CellAt (K : PySem.W.Frag) (F H : Hp) (p : Addr) : Cell → Prop
  | .lst xs => ∃ vs, H p = some (.lst vs) ∧ SAll K F vs xs
  | .dK kvs => ∃ vs, H p = some (.dK vs) ∧ KAll K F vs kvs
  | .ins C fs => ∃ dx vs, H p = some (.ins C dx vs) ∧ FAll K F vs fs
theorem CellAt.ex {K : PySem.W.Frag} {F F' H H' : Hp} {p : Addr} (e : Ex F F') (h : H' p = H p) : ∀ {c : Cell}, CellAt K F H p c → CellAt K F' H' p c
  | .lst _, ⟨vs, a, b⟩ => ⟨vs, h.trans a, SAll.ex e b⟩
  | .dK _, ⟨vs, a, b⟩ => ⟨vs, h.trans a, KAll.ex e b⟩
  | .ins _ _, ⟨dx, vs, a, b⟩ => ⟨dx, vs, h.trans a, FAll.ex e b⟩
theorem CellAt.some {K : PySem.W.Frag} {F H : Hp} {p : Addr} : ∀ {c : Cell}, CellAt K F H p c → ∃ o, H p = some o
  | .lst _, ⟨_, a, _⟩ => ⟨_, a⟩
  | .dK _, ⟨_, a, _⟩ => ⟨_, a⟩
  | .ins _ _, ⟨_, _, a, _⟩ => ⟨_, a⟩

/-! ### steps, states -/
structure Step (F H : Hp) (C : Cells) (F' H' : Hp) (C' : Cells) : Prop where
  exF : Ex F F'
  keep : ∀ p o, H p = some o → C p = none → H' p = some o
  newF : ∀ p, F' p ≠ none → F p ≠ none ∨ H p = none ∨ C p ≠ none
  newC : ∀ p, C' p ≠ none → C p ≠ none ∨ H p = none
theorem Step.refl (F H : Hp) (C : Cells) : Step F H C F H C := ⟨Ex.refl F, fun _ _ h _ => h, fun _ h => .inl h, fun _ h => .inl h⟩
theorem Step.trans {F H F1 H1 F2 H2 : Hp} {C C1 C2 : Cells} (a : Step F H C F1 H1 C1) (b : Step F1 H1 C1 F2 H2 C2) : Step F H C F2 H2 C2 := by
  have dead : ∀ p, H1 p = none → H p = none ∨ C p ≠ none := fun p h1 => by
    cases e : H p with
    | none => exact .inl rfl
    | some o =>
      refine .inr fun z => ?_
      rw [a.keep p o e z] at h1
      cases h1
  refine ⟨a.exF.trans b.exF, fun p o h c => ?_, fun p h => ?_, fun p h => ?_⟩
  · have h1 := a.keep p o h c
    refine b.keep p o h1 ?_
    cases e : C1 p with
    | none => rfl
    | some x =>
      rcases a.newC p (by rw [e]; simp) with z | z
      · exact absurd c z
      · rw [h] at z; cases z
  · rcases b.newF p h with z | z | z
    · exact a.newF p z
    · rcases dead p z with y | y
      · exact .inr (.inl y)
      · exact .inr (.inr y)
    · rcases a.newC p z with y | y
      · exact .inr (.inr y)
      · exact .inr (.inl y)
  · rcases b.newC p h with z | z
    · exact a.newC p z
    · rcases dead p z with y | y
      · exact .inr y
      · exact .inl y

structure G0 (K : PySem.W.Frag) (F H : Hp) (C : Cells) : Prop where
  sub : Ex F H
  dis : ∀ p c, C p = some c → F p = none
  cel : ∀ p c, C p = some c → CellAt K F H p c
abbrev Gm := List (Option SV)
def SlAt (K : PySem.W.Frag) (F : Hp) (σ : L2.St) (Γ : Gm) : Prop := ∀ (i : Nat) (s : SV), Γ[i]? = some (some s) → ∃ v, σ[i]? = some (some v) ∧ SAt K F v s
theorem SlAt.ex {K : PySem.W.Frag} {F F' : Hp} (e : Ex F F') {σ : L2.St} {Γ : Gm} (h : SlAt K F σ Γ) : SlAt K F' σ Γ := fun i s q =>
  let ⟨v, a, b⟩ := h i s q
  ⟨v, a, b.ex e⟩
theorem G0.sl {K : PySem.W.Frag} {F H : Hp} {C : Cells} (g : G0 K F H C) {p : Addr} (h : H p = none) : F p = none ∧ C p = none := by
  refine ⟨?_, ?_⟩
  · cases e : F p with
    | none => rfl
    | some o => rw [g.sub p o e] at h; cases h
  · cases e : C p with
    | none => rfl
    | some c =>
      obtain ⟨o, z⟩ := (g.cel p c e).some
      rw [h] at z; cases z

/-- an error that leaves: its class, its field -/
structure Er where
  cls : Addr
  fld : Option (Str × PyData) := none
def ErAt (K : PySem.W.Frag) (F : Hp) (e : Er) (cls : Value) (dd : Option Addr) : Prop := cls = .ref e.cls ∧ match e.fld with
  | none => dd = none
  | some (f, x) => ∃ a v, dd = some a ∧ F a = some (.xd [(f, v)]) ∧ Dp K F v x

/-- where one stands: the context, the entry, what is wanted of errors -/
structure Rx where
  X : Cx
  F0 : Hp
  H0 : Hp
  C0 : Cells
  er : Gm → Er → Cells → Prop
structure At (R : Rx) (σ : L2.St) (Γ : Gm) (F H : Hp) (C : Cells) : Prop where
  st : Step R.F0 R.H0 R.C0 F H C
  g : G0 R.X.K F H C
  sl : SlAt R.X.K F σ Γ
  ln : σ.length = Γ.length
/-- what is wanted of errors is handed on -/
def Tk (R : Rx) : Prop := ∃ W : WX, L2N.Takes R.X W ∧ ∀ σ Γ F H C e cls dd, At R σ Γ F H C → R.er Γ e C → ErAt R.X.K F e cls dd → W cls dd σ H

section
variable {X : Cx}
/-- the weakest readings -/
def wE (X : Cx) (e : Expr) : TE := fun σ H Q => ∀ pins s, Inv X pins σ H s → wpAny (model X.prog X.w) X.A (eval e X.env) (EP X pins σ Q) X.xe s
def wT (X : Cx) (e : Expr) : TT := fun σ H Q => ∀ pins s, Inv X pins σ H s → wpAny (model X.prog X.w) X.A (isTrue e X.env (eval e X.env)) (TP X pins σ Q) X.xe s
def wW (X : Cx) (e : Expr) : TT := fun σ H Q => ∀ (whole : Sem Value) pins s, Inv X pins σ H s → wpAny (model X.prog X.w) X.A (isTrue e X.env whole) (TP X pins σ Q) X.xe s
def wA (X : Cx) (es : List Expr) : TA := fun σ H Q => ∀ (pos : Pos) pins s, Inv X pins σ H s → wpAny (model X.prog X.w) X.A (spliced (backTo pos (starEach es X.env))) (AP X pins σ Q) X.xe s
def wS (X : Cx) (st : Stmt) : TS := fun D σ H => ∀ pins s, Inv X pins σ H s → wpAny (model X.prog X.w) X.A (exec st X.env) (SP X pins D) X.xe s
def wSs (X : Cx) (st : List Stmt) : TS := fun D σ H => ∀ pins s, Inv X pins σ H s → wpAny (model X.prog X.w) X.A (execs st X.env) (SP X pins D) X.xe s
theorem pe_w {e : Expr} : PE X e (wE X e) := ⟨fun pins s σ H Q I h => h pins s I⟩
theorem pt_w {e : Expr} : PT X e (wT X e) := ⟨fun pins s σ H Q I h => h pins s I⟩
theorem pw_w {e : Expr} : PW X e (wW X e) := ⟨fun w pins s σ H Q I h => h w pins s I⟩
theorem pa_w {es : List Expr} : PA X es (wA X es) := ⟨fun p pins s σ H Q I h => h p pins s I⟩
theorem ps_w {st : Stmt} : PS X st (wS X st) := ⟨fun pins s σ H D I h => h pins s I⟩
theorem pss_w {st : List Stmt} : PSs X st (wSs X st) := ⟨fun pins s σ H D I h => h pins s I⟩
theorem wE_of {e : Expr} {t : TE} (p : PE X e t) {σ : L2.St} {H : Hp} {Q : VK} (h : t σ H Q) : wE X e σ H Q := fun pins s I => p.run pins s σ H Q I h
theorem wT_of {e : Expr} {t : TT} (p : PT X e t) {σ : L2.St} {H : Hp} {Q : Bool → Hp → Prop} (h : t σ H Q) : wT X e σ H Q := fun pins s I => p.run pins s σ H Q I h
theorem wW_of {e : Expr} {t : TT} (p : PW X e t) {σ : L2.St} {H : Hp} {Q : Bool → Hp → Prop} (h : t σ H Q) : wW X e σ H Q := fun w pins s I => p.run w pins s σ H Q I h
theorem wA_of {es : List Expr} {t : TA} (p : PA X es t) {σ : L2.St} {H : Hp} {Q : List V → Hp → Prop} (h : t σ H Q) : wA X es σ H Q := fun pos pins s I => p.run pos pins s σ H Q I h
theorem wS_of {e : Stmt} {t : TS} (p : PS X e t) {D : Ends} {σ : L2.St} {H : Hp} (h : t D σ H) : wS X e D σ H := fun pins s I => p.run pins s σ H D I h
theorem wSs_of {e : List Stmt} {t : TS} (p : PSs X e t) {D : Ends} {σ : L2.St} {H : Hp} (h : t D σ H) : wSs X e D σ H := fun pins s I => p.run pins s σ H D I h
end

/-! ### the judgements -/
section
variable (R : Rx)
def EE (e : Expr) (Γ : Gm) (C : Cells) (Q : SV → Cells → Prop) : Prop := ∀ σ F H, At R σ Γ F H C → ∀ QV : VK, (∀ v s F' H' C', At R σ Γ F' H' C' → SAt R.X.K F' v s → Ex F F' → Q s C' → QV v H') → wE R.X e σ H QV
def EA (es : List Expr) (Γ : Gm) (C : Cells) (Q : List SV → Cells → Prop) : Prop := ∀ σ F H, At R σ Γ F H C → ∀ QV : List V → Hp → Prop, (∀ vs ss F' H' C', At R σ Γ F' H' C' → SAll R.X.K F' vs ss → Ex F F' → Q ss C' → QV vs H') → wA R.X es σ H QV
def ET (e : Expr) (Γ : Gm) (C : Cells) (Q : Bool → Cells → Prop) : Prop := ∀ σ F H, At R σ Γ F H C → ∀ QV : Bool → Hp → Prop, (∀ b F' H' C', At R σ Γ F' H' C' → Ex F F' → Q b C' → QV b H') → wT R.X e σ H QV
def EW (e : Expr) (Γ : Gm) (C : Cells) (Q : Bool → Cells → Prop) : Prop := ∀ σ F H, At R σ Γ F H C → ∀ QV : Bool → Hp → Prop, (∀ b F' H' C', At R σ Γ F' H' C' → Ex F F' → Q b C' → QV b H') → wW R.X e σ H QV
/-- what is wanted behind a statement -/
structure Nx where
  nx : Gm → Cells → Prop
  rt : SV → Cells → Prop
  bk : Gm → Cells → Prop := fun _ _ => False
  ct : Gm → Cells → Prop := fun _ _ => False
structure Ok (N : Nx) (F : Hp) (D : Ends) : Prop where
  nx : ∀ σ Γ F' H C, At R σ Γ F' H C → Ex F F' → N.nx Γ C → D.nx σ H
  rt : ∀ σ Γ F' H C v s, At R σ Γ F' H C → Ex F F' → SAt R.X.K F' v s → N.rt s C → D.rt v H
  bk : ∀ σ Γ F' H C, At R σ Γ F' H C → Ex F F' → N.bk Γ C → D.bk σ H
  ct : ∀ σ Γ F' H C, At R σ Γ F' H C → Ex F F' → N.ct Γ C → D.ct σ H
theorem Ok.ex {R : Rx} {N : Nx} {F F' : Hp} {D : Ends} (h : Ok R N F D) (e : Ex F F') : Ok R N F' D :=
  ⟨fun σ Γ F2 H C a e2 => h.nx σ Γ F2 H C a (e.trans e2), fun σ Γ F2 H C v s a e2 => h.rt σ Γ F2 H C v s a (e.trans e2), fun σ Γ F2 H C a e2 => h.bk σ Γ F2 H C a (e.trans e2), fun σ Γ F2 H C a e2 => h.ct σ Γ F2 H C a (e.trans e2)⟩
def SS (ss : List Stmt) (Γ : Gm) (C : Cells) (N : Nx) : Prop := ∀ σ F H, At R σ Γ F H C → ∀ D : Ends, Ok R N F D → wSs R.X ss D σ H
def S1 (st : Stmt) (Γ : Gm) (C : Cells) (N : Nx) : Prop := ∀ σ F H, At R σ Γ F H C → ∀ D : Ends, Ok R N F D → wS R.X st D σ H
end

section
variable {R : Rx} {Γ : Gm} {C C' : Cells} {σ : L2.St} {F H F' H' : Hp}
/-- a step of the machine from a state -/
theorem At.step (a : At R σ Γ F H C) (s : Step F H C F' H' C') (g : G0 R.X.K F' H' C') : At R σ Γ F' H' C' := ⟨a.st.trans s, g, a.sl.ex s.exF, a.ln⟩
/-- the heap grows by what nothing tells of -/
theorem At.more (a : At R σ Γ F H C) (e : Ex H H') : At R σ Γ F H' C := by
  refine a.step ⟨Ex.refl F, fun p o h _ => e p o h, fun _ h => .inl h, fun _ h => .inl h⟩ ⟨a.g.sub.trans e, a.g.dis, fun p c h => ?_⟩
  have q := a.g.cel p c h
  obtain ⟨o, z⟩ := q.some
  exact q.ex (Ex.refl F) ((e p o z).trans z.symm)
/-- a new datum stands -/
theorem At.lay (a : At R σ Γ F H C) {p : Addr} {o : HO} (hp : H p = none) : At R σ Γ (upd F p o) (upd H p o) C ∧ Ex F (upd F p o) := by
  have fp := (a.g.sl hp).1
  have eF : Ex F (upd F p o) := fun b u e => by rw [upd_ne (ne_of_none e fp)]; exact e
  have eH : Ex H (upd H p o) := fun b u e => by rw [upd_ne (ne_of_none e hp)]; exact e
  refine ⟨a.step ⟨eF, fun b u e _ => eH b u e, fun b h => ?_, fun _ h => .inl h⟩ ⟨fun b u e => ?_, fun b c e => ?_, fun b c e => ?_⟩, eF⟩
  · by_cases hb : b = p
    · subst hb; exact .inr (.inl hp)
    · rw [upd_ne hb] at h; exact .inl h
  · by_cases hb : b = p
    · subst hb; rw [upd_same] at e; rw [upd_same]; exact e
    · rw [upd_ne hb] at e; rw [upd_ne hb]; exact a.g.sub b u e
  · have hb : b ≠ p := fun z => by subst z; rw [(a.g.sl hp).2] at e; cases e
    rw [upd_ne hb]; exact a.g.dis b c e
  · have hb : b ≠ p := fun z => by subst z; rw [(a.g.sl hp).2] at e; cases e
    exact (a.g.cel b c e).ex eF (upd_ne hb)
/-- a new cell -/
theorem At.cell (a : At R σ Γ F H C) {p : Addr} {o : HO} {c : Cell} (hp : H p = none) (hc : CellAt R.X.K F (upd H p o) p c) : At R σ Γ F (upd H p o) (cupd C p c) := by
  have eH : Ex H (upd H p o) := fun b u e => by rw [upd_ne (ne_of_none e hp)]; exact e
  refine a.step ⟨Ex.refl F, fun b u e _ => eH b u e, fun _ h => .inl h, fun b h => ?_⟩ ⟨a.g.sub.trans eH, fun b c' e => ?_, fun b c' e => ?_⟩
  · by_cases hb : b = p
    · subst hb; exact .inr hp
    · rw [cupd_ne hb] at h; exact .inl h
  · by_cases hb : b = p
    · subst hb; exact (a.g.sl hp).1
    · rw [cupd_ne hb] at e; exact a.g.dis b c' e
  · by_cases hb : b = p
    · subst hb; rw [cupd_same] at e; cases e; exact hc
    · rw [cupd_ne hb] at e; exact (a.g.cel b c' e).ex (Ex.refl F) (upd_ne hb)
/-- a cell changes -/
theorem At.put (a : At R σ Γ F H C) {p : Addr} {o : HO} {c c0 : Cell} (h0 : C p = some c0) (hc : CellAt R.X.K F (upd H p o) p c) : At R σ Γ F (upd H p o) (cupd C p c) := by
  have fp := a.g.dis p c0 h0
  refine a.step ⟨Ex.refl F, fun b u e n => ?_, fun _ h => .inl h, fun b h => ?_⟩ ⟨fun b u e => ?_, fun b c' e => ?_, fun b c' e => ?_⟩
  · have hb : b ≠ p := fun z => by subst z; rw [h0] at n; cases n
    rw [upd_ne hb]; exact e
  · by_cases hb : b = p
    · subst hb; exact .inl (by rw [h0]; simp)
    · rw [cupd_ne hb] at h; exact .inl h
  · rw [upd_ne (ne_of_none e fp)]; exact a.g.sub b u e
  · by_cases hb : b = p
    · subst hb; exact fp
    · rw [cupd_ne hb] at e; exact a.g.dis b c' e
  · by_cases hb : b = p
    · subst hb; rw [cupd_same] at e; cases e; exact hc
    · rw [cupd_ne hb] at e; exact (a.g.cel b c' e).ex (Ex.refl F) (upd_ne hb)
/-- a cell is forgotten -/
theorem At.drop (a : At R σ Γ F H C) (h : ∀ p c, C' p = some c → C p = some c) : At R σ Γ F H C' :=
  a.step ⟨Ex.refl F, fun _ _ h _ => h, fun _ h => .inl h, fun p n => .inl (by
    cases e : C' p with
    | none => exact absurd e n
    | some c => rw [h p c e]; simp)⟩ ⟨a.g.sub, fun p c e => a.g.dis p c (h p c e), fun p c e => a.g.cel p c (h p c e)⟩
theorem sall_dp {K : PySem.W.Frag} {F : Hp} : ∀ {vs : List V} {ds : List PyData}, SAll K F vs (ds.map SV.d) → DpAll K F vs ds
  | [], [], _ => .nil
  | _ :: _, _ :: _, .cons r t => .cons r (sall_dp t)
theorem dp_sall {K : PySem.W.Frag} {F : Hp} : ∀ {vs : List V} {ds : List PyData}, DpAll K F vs ds → SAll K F vs (ds.map SV.d)
  | _, _, .nil => .nil
  | _, _, .cons r t => .cons r (dp_sall t)
theorem At.freeze (a : At R σ Γ F H C) {p : Addr} {ds : List PyData} (hc : C p = some (.lst (ds.map SV.d))) : ∃ F', At R σ Γ F' H (cdel C p) ∧ Ex F F' ∧ Dp R.X.K F' (.ref p) (.list ds) := by
  obtain ⟨vs, hv, r⟩ := a.g.cel p _ hc
  have fp := a.g.dis p _ hc
  have eF : Ex F (upd F p (.lst vs)) := fun b u e => by rw [upd_ne (ne_of_none e fp)]; exact e
  refine ⟨upd F p (.lst vs), a.step ⟨eF, fun _ _ h _ => h, fun b h => ?_, fun b h => ?_⟩ ⟨fun b u e => ?_, fun b c e => ?_, fun b c e => ?_⟩, eF, .lst (.inl (.inl upd_same)) (dpAll_ex eF (sall_dp r))⟩
  · by_cases hb : b = p
    · subst hb; exact .inr (.inr (by rw [hc]; simp))
    · rw [upd_ne hb] at h; exact .inl h
  · by_cases hb : b = p
    · subst hb; rw [cdel_same] at h; exact absurd rfl h
    · rw [cdel_ne hb] at h; exact .inl h
  · by_cases hb : b = p
    · subst hb; rw [upd_same] at e; cases e; exact hv
    · rw [upd_ne hb] at e; exact a.g.sub b u e
  · by_cases hb : b = p
    · subst hb; rw [cdel_same] at e; cases e
    · rw [cdel_ne hb] at e; rw [upd_ne hb]; exact a.g.dis b c e
  · by_cases hb : b = p
    · subst hb; rw [cdel_same] at e; cases e
    · rw [cdel_ne hb] at e; exact (a.g.cel b c e).ex eF rfl
end
end Dl

namespace Dl
open PySem PySem.Spec PyProof.Rows L2
section
variable {R : Rx} {Γ : Gm} {C C' : Cells} {σ : L2.St} {F H F' H' : Hp}

/-! ### evaluates to -/
def EV (R : Rx) (e : Expr) (Γ : Gm) (C : Cells) (s : SV) : Prop := ∀ Q : SV → Cells → Prop, Q s C → EE R e Γ C Q
def AV (R : Rx) (es : List Expr) (Γ : Gm) (C : Cells) (ss : List SV) : Prop := ∀ Q : List SV → Cells → Prop, Q ss C → EA R es Γ C Q
def TV (R : Rx) (e : Expr) (Γ : Gm) (C : Cells) (b : Bool) : Prop := ∀ Q : Bool → Cells → Prop, Q b C → ET R e Γ C Q
def WV (R : Rx) (e : Expr) (Γ : Gm) (C : Cells) (b : Bool) : Prop := ∀ Q : Bool → Cells → Prop, Q b C → EW R e Γ C Q
theorem EE.imp {e : Expr} {Q Q' : SV → Cells → Prop} (h : EE R e Γ C Q) (k : ∀ s C', Q s C' → Q' s C') : EE R e Γ C Q' := fun σ F H a QV q => h σ F H a QV fun v s F' H' C' a' r e z => q v s F' H' C' a' r e (k _ _ z)
theorem EA.imp {e : List Expr} {Q Q' : List SV → Cells → Prop} (h : EA R e Γ C Q) (k : ∀ s C', Q s C' → Q' s C') : EA R e Γ C Q' := fun σ F H a QV q => h σ F H a QV fun v s F' H' C' a' r e z => q v s F' H' C' a' r e (k _ _ z)
theorem ET.imp {e : Expr} {Q Q' : Bool → Cells → Prop} (h : ET R e Γ C Q) (k : ∀ s C', Q s C' → Q' s C') : ET R e Γ C Q' := fun σ F H a QV q => h σ F H a QV fun b F' H' C' a' e z => q b F' H' C' a' e (k _ _ z)
/-- garbage goes -/
theorem EE.drop {e : Expr} {Q : SV → Cells → Prop} (h : EE R e Γ C (fun s C' => ∃ C'', (∀ p c, C'' p = some c → C' p = some c) ∧ Q s C'')) : EE R e Γ C Q := fun σ F H a QV q => h σ F H a QV fun v s F' H' C' a' r e ⟨C'', hs, z⟩ => q v s F' H' C'' (a'.drop hs) r e z
/-- a list cell becomes data -/
theorem EE.freeze {e : Expr} {Q : SV → Cells → Prop} (h : EE R e Γ C (fun s C' => ∃ p ds, s = .c p ∧ C' p = some (.lst (ds.map SV.d)) ∧ Q (.d (.list ds)) (cdel C' p))) : EE R e Γ C Q := fun σ F H a QV q => h σ F H a QV fun v s F' H' C' a' r e ⟨p, ds, es, hc, z⟩ => by
  subst es
  obtain ⟨F2, a2, e2, d2⟩ := a'.freeze hc
  have r' : v = .ref p := r
  subst r'
  exact q _ (.d (.list ds)) F2 H' _ a2 d2 (e.trans e2) z

/-! ### shapes -/
section
variable {K : PySem.W.Frag} {v : V}
theorem sat_int {i : Int} (h : SAt K F v (.d (.int i))) : v = .int i := by cases (show Dp K F v (.int i) from h); rfl
theorem sat_bl {b : Bool} (h : SAt K F v (.d (.bool b))) : v = .bl b := by cases (show Dp K F v (.bool b) from h); rfl
theorem sat_str {x : Str} (h : SAt K F v (.d (.str x))) : v = .str x := by cases (show Dp K F v (.str x) from h); rfl
theorem sat_non (h : SAt K F v (.d .none)) : v = .non := by cases (show Dp K F v .none from h); rfl
theorem sat_tup {ds : List PyData} (h : SAt K F v (.d (.tuple ds))) : ∃ a xs, v = .ref a ∧ SqT K F a xs ∧ DpAll K F xs ds := by
  cases (show Dp K F v (.tuple ds) from h) with
  | tup s r => exact ⟨_, _, rfl, s, r⟩
theorem sat_lst {ds : List PyData} (h : SAt K F v (.d (.list ds))) : ∃ a xs, v = .ref a ∧ SqL K F a xs ∧ DpAll K F xs ds := by
  cases (show Dp K F v (.list ds) from h) with
  | lst s r => exact ⟨_, _, rfl, s, r⟩
theorem dpAll_len : ∀ {xs : List V} {ds : List PyData}, DpAll K F xs ds → xs.length = ds.length
  | _, _, .nil => rfl
  | _, _, .cons _ t => congrArg (· + 1) (dpAll_len t)
theorem dpAll_get : ∀ {xs : List V} {ds : List PyData} {i : Nat} {d : PyData}, DpAll K F xs ds → ds[i]? = some d → ∃ v, xs[i]? = some v ∧ Dp K F v d
  | _, _, _, _, .nil, e => by simp at e
  | _, _, 0, _, .cons r _, e => by simp at e; subst e; exact ⟨_, rfl, r⟩
  | _, _, i + 1, d, .cons _ t, e => by
    obtain ⟨u, h1, h2⟩ := dpAll_get (i := i) (d := d) t (by simpa using e)
    exact ⟨u, by simpa using h1, h2⟩
theorem dpAll_get' : ∀ {xs : List V} {ds : List PyData} {i : Nat} {v : V}, DpAll K F xs ds → xs[i]? = some v → ∃ d, ds[i]? = some d ∧ Dp K F v d
  | _, _, _, _, .nil, e => by simp at e
  | _, _, 0, _, .cons r _, e => by simp at e; subst e; exact ⟨_, rfl, r⟩
  | _, _, i + 1, d, .cons _ t, e => by
    obtain ⟨u, h1, h2⟩ := dpAll_get' (i := i) t (by simpa using e)
    exact ⟨u, by simpa using h1, h2⟩
theorem sall_get {s : SV} : ∀ {xs : List V} {ds : List SV} {i : Nat}, SAll K F xs ds → ds[i]? = some s → ∃ v, xs[i]? = some v ∧ SAt K F v s
  | _, _, _, .nil, e => by simp at e
  | _, _, 0, .cons r _, e => by simp at e; subst e; exact ⟨_, rfl, r⟩
  | _, _, i + 1, .cons _ t, e => by
    obtain ⟨u, h1, h2⟩ := sall_get (i := i) t (by simpa using e)
    exact ⟨u, by simpa using h1, h2⟩
theorem dpAll_atI {xs : List V} {ds : List PyData} {i : Int} {d : PyData} (r : DpAll K F xs ds) (e : atI ds i = some d) : ∃ v, atI xs i = some v ∧ Dp K F v d := by
  unfold atI at e ⊢
  rw [dpAll_len r]
  cases q : ixN ds.length i with
  | none => rw [q] at e; cases e
  | some j =>
    rw [q] at e
    obtain ⟨v, h1, h2⟩ := dpAll_get r (show ds[j]? = some d from e)
    exact ⟨v, h1, h2⟩
theorem sall_atI {xs : List V} {ds : List SV} {i : Int} {d : SV} (r : SAll K F xs ds) (e : atI ds i = some d) : ∃ v, atI xs i = some v ∧ SAt K F v d := by
  unfold atI at e ⊢
  rw [Paired.length r]
  cases q : ixN ds.length i with
  | none => rw [q] at e; cases e
  | some j =>
    rw [q] at e
    obtain ⟨v, h1, h2⟩ := sall_get r (show ds[j]? = some d from e)
    exact ⟨v, h1, h2⟩
theorem dpAll_append : ∀ {xs ys : List V} {ds es : List PyData}, DpAll K F xs ds → DpAll K F ys es → DpAll K F (xs ++ ys) (ds ++ es)
  | _, _, _, _, .nil, h => h
  | _, _, _, _, .cons r t, h => .cons r (dpAll_append t h)
theorem dpAll_take : ∀ {xs : List V} {ds : List PyData} (n : Nat), DpAll K F xs ds → DpAll K F (xs.take n) (ds.take n)
  | _, _, 0, _ => .nil
  | _, _, _ + 1, .nil => .nil
  | _, _, n + 1, .cons r t => .cons r (dpAll_take n t)
theorem dpAll_drop : ∀ {xs : List V} {ds : List PyData} (n : Nat), DpAll K F xs ds → DpAll K F (xs.drop n) (ds.drop n)
  | _, _, 0, h => h
  | _, _, _ + 1, .nil => .nil
  | _, _, n + 1, .cons r t => dpAll_drop n t
theorem sall_append {xs ys : List V} {ds es : List SV} (h : SAll K F xs ds) (h2 : SAll K F ys es) : SAll K F (xs ++ ys) (ds ++ es) := by
  induction h with
  | nil => exact h2
  | cons r t ih => exact .cons r ih
theorem sall_set {xs : List V} {ds : List SV} {v : V} {s : SV} (h : SAll K F xs ds) (r : SAt K F v s) : ∀ i : Nat, SAll K F (xs.set i v) (ds.set i s) := by
  induction h with
  | nil => intro i; exact .nil
  | cons q t ih =>
    intro i
    cases i with
    | zero => exact .cons r t
    | succ i => exact .cons q (ih i)
end

/-! ### names, constants -/
theorem ee_v (i : Nat) {s : SV} {x : Str} {pos : Pos} {Q : SV → Cells → Prop} (h : Γ[i]? = some (some s)) (q : Q s C) (hN : R.X.N[i]? = some x := by rfl) (hv : Vis R.X.env.scope x := by first | exact Or.inl rfl | exact Or.inr (Or.inl rfl) | exact Or.inr (Or.inr rfl))
    (hd : (x == ("__debug__" : Str)) = false := by decide) (hcd : (x == ("__classdict__" : Str)) = false := by decide) : EE R (.Name x pos) Γ C Q := fun σ F H a QV k => by
  obtain ⟨v, e, r⟩ := a.sl i s h
  exact wE_of (pe_var hN hv hd hcd) ⟨v, e, k v s F H C a r (Ex.refl F) q⟩
theorem ev_v (i : Nat) {s : SV} {x : Str} {pos : Pos} (h : Γ[i]? = some (some s) := by rfl) (hN : R.X.N[i]? = some x := by rfl) (hv : Vis R.X.env.scope x := by first | exact Or.inl rfl | exact Or.inr (Or.inl rfl) | exact Or.inr (Or.inr rfl))
    (hd : (x == ("__debug__" : Str)) = false := by decide) (hcd : (x == ("__classdict__" : Str)) = false := by decide) : EV R (.Name x pos) Γ C s := fun Q q => ee_v i h q hN hv hd hcd
theorem ev_int {i j pos} : EV R (.Constant (.int i) j pos) Γ C (.int i) := fun Q q σ F H a QV k => wE_of pe_int (k _ (.d (.int i)) F H C a (.int i) (Ex.refl F) q)
theorem ev_bl {i j pos} : EV R (.Constant (.bool i) j pos) Γ C (.bl i) := fun Q q σ F H a QV k => wE_of pe_bl (k _ (.d (.bool i)) F H C a (.bl i) (Ex.refl F) q)
theorem ev_str {i j pos} : EV R (.Constant (.str i) j pos) Γ C (.str i) := fun Q q σ F H a QV k => wE_of pe_str (k _ (.d (.str i)) F H C a (.str i) (Ex.refl F) q)
theorem ev_non {j pos} : EV R (.Constant .none j pos) Γ C .non := fun Q q σ F H a QV k => wE_of pe_non (k _ (.d .none) F H C a .non (Ex.refl F) q)
/-- a module's int, text -/
theorem ev_gint {x : Str} {i : Int} {pos : Pos} (hm : ∃ t, R.X.mg x = some (.int i t)) (hg : Gl R.X x := by rfl) (hd : (x == ("__debug__" : Str)) = false := by decide) : EV R (.Name x pos) Γ C (.int i) := fun Q q σ F H a QV k => by
  obtain ⟨t, hm⟩ := hm
  exact wE_of (pe_glob (v := .int i) hg hm ⟨t, rfl⟩ hd) (k _ (.d (.int i)) F H C a (.int i) (Ex.refl F) q)
theorem ev_gstr {x y : Str} {pos : Pos} (hm : ∃ t, R.X.mg x = some (.str y t)) (hg : Gl R.X x := by rfl) (hd : (x == ("__debug__" : Str)) = false := by decide) : EV R (.Name x pos) Γ C (.str y) := fun Q q σ F H a QV k => by
  obtain ⟨t, hm⟩ := hm
  exact wE_of (pe_glob (v := .str y) hg hm ⟨t, rfl⟩ hd) (k _ (.d (.str y)) F H C a (.str y) (Ex.refl F) q)
/-- a module's tuple, list -/
theorem ev_gref {x : Str} {b : Addr} {d : PyData} {pos : Pos} (hm : R.X.mg x = some (.ref b)) (hd' : ∀ F, Dp R.X.K F (.ref b) d) (hg : Gl R.X x := by rfl) (hd : (x == ("__debug__" : Str)) = false := by decide) : EV R (.Name x pos) Γ C (.d d) := fun Q q σ F H a QV k => by
  exact wE_of (pe_glob (v := .ref b) hg hm rfl hd) (k _ (.d d) F H C a (hd' F) (Ex.refl F) q)

/-! ### two-place operations -/
/-- what an operation makes of two values -/
def OV (R : Rx) (Γ : Gm) (C : Cells) (r : R2) (x y z : SV) : Prop := ∀ σ F H, At R σ Γ F H C → ∀ v u, SAt R.X.K F v x → SAt R.X.K F u y → ∀ QV : VK, (∀ w F' H', At R σ Γ F' H' C → SAt R.X.K F' w z → Ex F F' → QV w H') → r v u H QV
theorem ev_op2 {e a b : Expr} {r : R2} {x y z : SV} (pe : PE R.X e (tOp r (wE R.X a) (wE R.X b))) (ha : EV R a Γ C x) (hb : EV R b Γ C y) (o : OV R Γ C r x y z) : EV R e Γ C z := fun Q q σ F H at0 QV k => by
  refine wE_of pe ?_
  refine ha (fun s C' => s = x ∧ C' = C) ⟨rfl, rfl⟩ σ F H at0 _ fun v s F1 H1 C1 a1 r1 e1 h1 => ?_
  obtain ⟨rfl, rfl⟩ := h1
  refine hb (fun s C' => s = y ∧ C' = C1) ⟨rfl, rfl⟩ σ F1 H1 a1 _ fun u s2 F2 H2 C2 a2 r2 e2 h2 => ?_
  obtain ⟨rfl, rfl⟩ := h2
  exact o σ F2 H2 a2 v u (r1.ex e2) r2 QV fun w F3 H3 a3 r3 e3 => k w z F3 H3 C2 a3 r3 ((e1.trans e2).trans e3) q
theorem tv_op2 {e a b : Expr} {r : R2} {x y : SV} {c : Bool} (pt : PT R.X e (tTest (tOp r (wE R.X a) (wE R.X b)))) (ha : EV R a Γ C x) (hb : EV R b Γ C y) (o : OV R Γ C r x y (.bl c)) : TV R e Γ C c := fun Q q σ F H at0 QV k => by
  refine wT_of pt ?_
  refine ha (fun s C' => s = x ∧ C' = C) ⟨rfl, rfl⟩ σ F H at0 _ fun v s F1 H1 C1 a1 r1 e1 h1 => ?_
  obtain ⟨rfl, rfl⟩ := h1
  refine hb (fun s C' => s = y ∧ C' = C1) ⟨rfl, rfl⟩ σ F1 H1 a1 _ fun u s2 F2 H2 C2 a2 r2 e2 h2 => ?_
  obtain ⟨rfl, rfl⟩ := h2
  exact o σ F2 H2 a2 v u (r1.ex e2) r2 _ fun w F3 H3 a3 r3 e3 => ⟨c, sat_bl r3, k c F3 H3 C2 a3 ((e1.trans e2).trans e3) q⟩
/-- values given out as they are: nothing is laid -/
theorem ov_I0 {g : Int → Int → V} {i j : Int} {z : SV} (hz : ∀ K F, SAt K F (g i j) z) : OV R Γ C (rI0 g) (.int i) (.int j) z := fun σ F H a v u r1 r2 QV k => by
  rw [sat_int r1, sat_int r2]
  exact ⟨i, j, rfl, rfl, k _ F H a (hz _ _) (Ex.refl F)⟩
theorem ov_I {c : Int → Int → Prop} {g : Int → Int → V} {i j : Int} {z : SV} (hc : c i j) (hz : ∀ K F, SAt K F (g i j) z) : OV R Γ C (rI c g) (.int i) (.int j) z := fun σ F H a v u r1 r2 QV k => by
  rw [sat_int r1, sat_int r2]
  exact ⟨i, j, rfl, rfl, hc, k _ F H a (hz _ _) (Ex.refl F)⟩
section
variable {a b : Expr} {pos : Pos} {i j : Int}
theorem ev_add (ha : EV R a Γ C (.int i)) (hb : EV R b Γ C (.int j)) : EV R (.BinOp a .Add b pos) Γ C (.int (i + j)) := ev_op2 (pe_op op_add pe_w pe_w) ha hb (ov_I0 fun _ _ => .int _)
theorem ev_sub (ha : EV R a Γ C (.int i)) (hb : EV R b Γ C (.int j)) : EV R (.BinOp a .Sub b pos) Γ C (.int (i - j)) := ev_op2 (pe_op op_sub pe_w pe_w) ha hb (ov_I0 fun _ _ => .int _)
theorem ev_mul (ha : EV R a Γ C (.int i)) (hb : EV R b Γ C (.int j)) (h : CMulW i j) : EV R (.BinOp a .Mult b pos) Γ C (.int (i * j)) := ev_op2 (pe_op op_mulW pe_w pe_w) ha hb (ov_I h fun _ _ => .int _)
/-- one factor is small -/
theorem ev_mulS (ha : EV R a Γ C (.int i)) (hb : EV R b Γ C (.int j)) (h : CMul i j) : EV R (.BinOp a .Mult b pos) Γ C (.int (i * j)) := ev_op2 (pe_op op_mul pe_w pe_w) ha hb (ov_I h fun _ _ => .int _)
theorem ev_div (ha : EV R a Γ C (.int i)) (hb : EV R b Γ C (.int j)) (h : CDivW i j) : EV R (.BinOp a .FloorDiv b pos) Γ C (.int (i / j)) := ev_op2 (pe_op op_fdivW pe_w pe_w) ha hb (ov_I h fun _ _ => .int _)
theorem ev_mod (ha : EV R a Γ C (.int i)) (hb : EV R b Γ C (.int j)) (h : 0 < j) : EV R (.BinOp a .Mod b pos) Γ C (.int (i % j)) := ev_op2 (pe_op op_mod pe_w pe_w) ha hb (ov_I h fun _ _ => .int _)
theorem ev_pow (ha : EV R a Γ C (.int i)) (hb : EV R b Γ C (.int j)) (h : CPow i j) : EV R (.BinOp a .Pow b pos) Γ C (.int (i ^ j.toNat)) := ev_op2 (pe_op op_pow pe_w pe_w) ha hb (ov_I h fun _ _ => .int _)
theorem ev_lt (ha : EV R a Γ C (.int i)) (hb : EV R b Γ C (.int j)) : EV R (.Compare a [.Lt] [b] pos) Γ C (.bl (decide (i < j))) := ev_op2 (pe_cmpR op_lt pe_w pe_w (nomark _)) ha hb (ov_I0 fun _ _ => .bl _)
theorem ev_le (ha : EV R a Γ C (.int i)) (hb : EV R b Γ C (.int j)) : EV R (.Compare a [.LtE] [b] pos) Γ C (.bl (decide (i ≤ j))) := ev_op2 (pe_cmpR op_le pe_w pe_w (nomark _)) ha hb (ov_I0 fun _ _ => .bl _)
theorem ev_gt (ha : EV R a Γ C (.int i)) (hb : EV R b Γ C (.int j)) : EV R (.Compare a [.Gt] [b] pos) Γ C (.bl (decide (j < i))) := ev_op2 (pe_cmpR op_gt pe_w pe_w (nomark _)) ha hb (ov_I0 fun _ _ => .bl _)
theorem ev_ge (ha : EV R a Γ C (.int i)) (hb : EV R b Γ C (.int j)) : EV R (.Compare a [.GtE] [b] pos) Γ C (.bl (decide (j ≤ i))) := ev_op2 (pe_cmpR op_ge pe_w pe_w (nomark _)) ha hb (ov_I0 fun _ _ => .bl _)
theorem tv_lt (ha : EV R a Γ C (.int i)) (hb : EV R b Γ C (.int j)) : TV R (.Compare a [.Lt] [b] pos) Γ C (decide (i < j)) := tv_op2 (pt_cmpR op_lt pe_w pe_w (nomark _)) ha hb (ov_I0 fun _ _ => .bl _)
theorem tv_le (ha : EV R a Γ C (.int i)) (hb : EV R b Γ C (.int j)) : TV R (.Compare a [.LtE] [b] pos) Γ C (decide (i ≤ j)) := tv_op2 (pt_cmpR op_le pe_w pe_w (nomark _)) ha hb (ov_I0 fun _ _ => .bl _)
theorem tv_gt (ha : EV R a Γ C (.int i)) (hb : EV R b Γ C (.int j)) : TV R (.Compare a [.Gt] [b] pos) Γ C (decide (j < i)) := tv_op2 (pt_cmpR op_gt pe_w pe_w (nomark _)) ha hb (ov_I0 fun _ _ => .bl _)
theorem tv_ge (ha : EV R a Γ C (.int i)) (hb : EV R b Γ C (.int j)) : TV R (.Compare a [.GtE] [b] pos) Γ C (decide (j ≤ i)) := tv_op2 (pt_cmpR op_ge pe_w pe_w (nomark _)) ha hb (ov_I0 fun _ _ => .bl _)
/-- == of scalars of one kind -/
theorem ov_eqI {x y : Int} : OV R Γ C rEq (.int x) (.int y) (.bl (decide (x = y))) := fun σ F H a v u r1 r2 QV k => by
  rw [sat_int r1, sat_int r2]
  have e : decide (V.int x = V.int y) = decide (x = y) := by simp
  exact ⟨rfl, by rw [e]; exact k _ F H a (Dp.bl _) (Ex.refl F)⟩
theorem ov_neI {x y : Int} : OV R Γ C rNe (.int x) (.int y) (.bl (!decide (x = y))) := fun σ F H a v u r1 r2 QV k => by
  rw [sat_int r1, sat_int r2]
  have e : decide (V.int x = V.int y) = decide (x = y) := by simp
  exact ⟨rfl, by rw [e]; exact k _ F H a (Dp.bl _) (Ex.refl F)⟩
theorem ov_eqS {x y : Str} : OV R Γ C rEq (.str x) (.str y) (.bl (decide (x = y))) := fun σ F H a v u r1 r2 QV k => by
  rw [sat_str r1, sat_str r2]
  have e : decide (V.str x = V.str y) = decide (x = y) := by simp
  exact ⟨rfl, by rw [e]; exact k _ F H a (Dp.bl _) (Ex.refl F)⟩
theorem ov_neS {x y : Str} : OV R Γ C rNe (.str x) (.str y) (.bl (!decide (x = y))) := fun σ F H a v u r1 r2 QV k => by
  rw [sat_str r1, sat_str r2]
  have e : decide (V.str x = V.str y) = decide (x = y) := by simp
  exact ⟨rfl, by rw [e]; exact k _ F H a (Dp.bl _) (Ex.refl F)⟩
theorem ev_eq (ha : EV R a Γ C (.int i)) (hb : EV R b Γ C (.int j)) : EV R (.Compare a [.Eq] [b] pos) Γ C (.bl (decide (i = j))) := ev_op2 (pe_cmpR op_eq pe_w pe_w (nomark _)) ha hb ov_eqI
theorem ev_ne (ha : EV R a Γ C (.int i)) (hb : EV R b Γ C (.int j)) : EV R (.Compare a [.NotEq] [b] pos) Γ C (.bl (!decide (i = j))) := ev_op2 (pe_cmpR op_ne pe_w pe_w (nomark _)) ha hb ov_neI
theorem tv_eq (ha : EV R a Γ C (.int i)) (hb : EV R b Γ C (.int j)) : TV R (.Compare a [.Eq] [b] pos) Γ C (decide (i = j)) := tv_op2 (pt_cmpR op_eq pe_w pe_w (nomark _)) ha hb ov_eqI
theorem tv_ne (ha : EV R a Γ C (.int i)) (hb : EV R b Γ C (.int j)) : TV R (.Compare a [.NotEq] [b] pos) Γ C (!decide (i = j)) := tv_op2 (pt_cmpR op_ne pe_w pe_w (nomark _)) ha hb ov_neI
theorem ev_eqs {i j : Str} (ha : EV R a Γ C (.str i)) (hb : EV R b Γ C (.str j)) : EV R (.Compare a [.Eq] [b] pos) Γ C (.bl (decide (i = j))) := ev_op2 (pe_cmpR op_eq pe_w pe_w (nomark _)) ha hb ov_eqS
theorem ev_nes {i j : Str} (ha : EV R a Γ C (.str i)) (hb : EV R b Γ C (.str j)) : EV R (.Compare a [.NotEq] [b] pos) Γ C (.bl (!decide (i = j))) := ev_op2 (pe_cmpR op_ne pe_w pe_w (nomark _)) ha hb ov_neS
theorem tv_eqs {i j : Str} (ha : EV R a Γ C (.str i)) (hb : EV R b Γ C (.str j)) : TV R (.Compare a [.Eq] [b] pos) Γ C (decide (i = j)) := tv_op2 (pt_cmpR op_eq pe_w pe_w (nomark _)) ha hb ov_eqS
theorem tv_nes {i j : Str} (ha : EV R a Γ C (.str i)) (hb : EV R b Γ C (.str j)) : TV R (.Compare a [.NotEq] [b] pos) Γ C (!decide (i = j)) := tv_op2 (pt_cmpR op_ne pe_w pe_w (nomark _)) ha hb ov_neS
/-- == of data of any depth -/
theorem ov_eqD {x y : PyData} (hx : SeqAt.shaped x = true) (hy : SeqAt.shaped y = true) : OV R Γ C (rEqD R.X.K) (.d x) (.d y) (.bl (PyData.eqv x y)) := fun σ F H a v u r1 r2 QV k =>
  ⟨x, y, dp_ex a.g.sub r1, dp_ex a.g.sub r2, hx, hy, k _ F H a (Dp.bl _) (Ex.refl F)⟩
theorem ov_neD {x y : PyData} (hx : SeqAt.shaped x = true) (hy : SeqAt.shaped y = true) : OV R Γ C (rNeD R.X.K) (.d x) (.d y) (.bl (!PyData.eqv x y)) := fun σ F H a v u r1 r2 QV k =>
  ⟨x, y, dp_ex a.g.sub r1, dp_ex a.g.sub r2, hx, hy, k _ F H a (Dp.bl _) (Ex.refl F)⟩
theorem ev_eqd {x y : PyData} (hu : R.X.A.units + 64 < cLine) (ha : EV R a Γ C (.d x)) (hb : EV R b Γ C (.d y)) (hx : SeqAt.shaped x = true) (hy : SeqAt.shaped y = true) : EV R (.Compare a [.Eq] [b] pos) Γ C (.bl (PyData.eqv x y)) := ev_op2 (pe_cmpR (op_eqD hu) pe_w pe_w (nomark _)) ha hb (ov_eqD hx hy)
theorem ev_ned {x y : PyData} (hu : R.X.A.units + 64 < cLine) (ha : EV R a Γ C (.d x)) (hb : EV R b Γ C (.d y)) (hx : SeqAt.shaped x = true) (hy : SeqAt.shaped y = true) : EV R (.Compare a [.NotEq] [b] pos) Γ C (.bl (!PyData.eqv x y)) := ev_op2 (pe_cmpR (op_neD hu) pe_w pe_w (nomark _)) ha hb (ov_neD hx hy)
theorem tv_eqd {x y : PyData} (hu : R.X.A.units + 64 < cLine) (ha : EV R a Γ C (.d x)) (hb : EV R b Γ C (.d y)) (hx : SeqAt.shaped x = true) (hy : SeqAt.shaped y = true) : TV R (.Compare a [.Eq] [b] pos) Γ C (PyData.eqv x y) := tv_op2 (pt_cmpR (op_eqD hu) pe_w pe_w (nomark _)) ha hb (ov_eqD hx hy)
theorem tv_ned {x y : PyData} (hu : R.X.A.units + 64 < cLine) (ha : EV R a Γ C (.d x)) (hb : EV R b Γ C (.d y)) (hx : SeqAt.shaped x = true) (hy : SeqAt.shaped y = true) : TV R (.Compare a [.NotEq] [b] pos) Γ C (!PyData.eqv x y) := tv_op2 (pt_cmpR (op_neD hu) pe_w pe_w (nomark _)) ha hb (ov_neD hx hy)
/-- is None -/
def nonB : PyData → Bool
  | .none => true
  | _ => false
theorem isNon_iff {K : PySem.W.Frag} {v : V} {d : PyData} (h : Dp K F v d) : decide (v = .non) = nonB d := by
  cases h <;> rfl
theorem ov_isN {x : PyData} : OV R Γ C (fun x y H Q => y = .non ∧ Q (.bl (decide (x = .non))) H) (.d x) .non (.bl (nonB x)) := fun σ F H a v u r1 r2 QV k => by
  refine ⟨sat_non r2, ?_⟩
  rw [isNon_iff (show Dp _ F v x from r1)]
  exact k _ F H a (Dp.bl _) (Ex.refl F)
theorem ov_notN {x : PyData} : OV R Γ C (fun x y H Q => y = .non ∧ Q (.bl (!decide (x = .non))) H) (.d x) .non (.bl (!nonB x)) := fun σ F H a v u r1 r2 QV k => by
  refine ⟨sat_non r2, ?_⟩
  rw [isNon_iff (show Dp _ F v x from r1)]
  exact k _ F H a (Dp.bl _) (Ex.refl F)
theorem tv_isN {x : PyData} (ha : EV R a Γ C (.d x)) (hb : EV R b Γ C .non) : TV R (.Compare a [.Is] [b] pos) Γ C (nonB x) := tv_op2 (pt_cmpR op_isN pe_w pe_w (nomark _)) ha hb ov_isN
theorem tv_notN {x : PyData} (ha : EV R a Γ C (.d x)) (hb : EV R b Γ C .non) : TV R (.Compare a [.IsNot] [b] pos) Γ C (!nonB x) := tv_op2 (pt_cmpR op_notN pe_w pe_w (nomark _)) ha hb ov_notN
/-- text + text -/
theorem ev_cat {i j : Str} (ha : EV R a Γ C (.str i)) (hb : EV R b Γ C (.str j)) (h : i.length + j.length ≤ sizeLine) : EV R (.BinOp a .Add b pos) Γ C (.str (i ++ j)) := ev_op2 (pe_op op_add_str pe_w pe_w) ha hb fun σ F H at0 v u r1 r2 QV k => by
  rw [sat_str r1, sat_str r2]
  exact ⟨i, j, rfl, rfl, h, k _ F H at0 (Dp.str _) (Ex.refl F)⟩
/-- list + list, data -/
def rCatD (K : PySem.W.Frag) : R2 := fun x y H Q => ∃ l b xs zs, x = .ref l ∧ y = .ref b ∧ SqL K H l xs ∧ SqL K H b zs ∧ xs.length + zs.length ≤ sizeLine ∧ ∀ p, H p = none → Q (.ref p) (upd H p (.lst (xs ++ zs)))
theorem op_catD {X : Cx} : OpR X (binaryOp .Add) (rCatD X.K) := by
  intro pins s σ H x y v u Q I rx ry h
  obtain ⟨l, b, xs, zs, rfl, rfl, hH, hB, hz, q⟩ := h
  cases rx
  cases ry
  obtain ⟨its, r, ⟨⟨cls, dd, data, sl⟩, n, ho, hc, hdn, hd⟩, _⟩ := I.list hH
  obtain ⟨its2, r2, ⟨⟨cls2, dd2, data2, sl2⟩, n2, ho2, hc2, hdn2, hd2⟩, _⟩ := I.list hB
  simp only at hc hd hc2 hd2
  subst hc hd hc2 hd2
  have hl := Vals.length r
  have hl2 := Vals.length r2
  have ea : its.toArray ++ its2.toArray = (its ++ its2).toArray := by simp
  refine concat_meets ⟨_, ho, rfl⟩ ⟨_, ho2, rfl⟩ noFill_list_add seq_list_add PySem.F.slot_list_add PySem.F.entry_list_add (PySem.F.args_list_add_2 _ _) (list_addW l b its.toArray its2.toArray n n2 dd dd2 sl sl2 (by simp only [List.size_toArray]; omega)) ⟨ho, ho2, ?_⟩
  rw [ea]
  exact ⟨.ref _, _, I.lnew (t' := s.toks) (r.append r2) (by rw [List.length_append]; omega), rfl, q _ I.fresh⟩
theorem ev_catL {x y : List PyData} (ha : EV R a Γ C (.d (.list x))) (hb : EV R b Γ C (.d (.list y))) (h : x.length + y.length ≤ sizeLine) : EV R (.BinOp a .Add b pos) Γ C (.d (.list (x ++ y))) := ev_op2 (pe_op op_catD pe_w pe_w) ha hb fun σ F H at0 v u r1 r2 QV k => by
  obtain ⟨p, xs, rfl, s1, d1⟩ := sat_lst r1
  obtain ⟨q, ys, rfl, s2, d2⟩ := sat_lst r2
  refine ⟨p, q, xs, ys, rfl, rfl, at0.g.sub.sqL s1, at0.g.sub.sqL s2, by rw [dpAll_len d1, dpAll_len d2]; exact h, fun p' np => ?_⟩
  obtain ⟨a2, e2⟩ := at0.lay (o := .lst (xs ++ ys)) np
  exact k _ _ _ a2 (.lst (.inl (.inl upd_same)) (dpAll_ex e2 (dpAll_append d1 d2))) e2
/-- x in a list or tuple of data -/
theorem tv_inT {x : PyData} {ds : List PyData} (ha : EV R a Γ C (.d x)) (hb : EV R b Γ C (.d (.tuple ds))) (hx : ∀ K F v, Dp K F v x → flatV v = true) (hs : ∀ K F vs, DpAll K F vs ds → vs.all flatV = true) (c : Bool) (hc : ∀ K F v vs, Dp K F v x → DpAll K F vs ds → inV v vs = c)
    (hm : behindInMarks .In b = false := by rfl) : TV R (.Compare a [.In] [b] pos) Γ C c := tv_op2 (pt_cmpR op_in_seq pe_w pe_w hm) ha hb fun σ F H at0 v u r1 r2 QV k => by
  obtain ⟨q, ys, rfl, s2, d2⟩ := sat_tup r2
  refine ⟨q, ys, rfl, .inr (at0.g.sub.sqT s2), hx _ _ _ r1, hs _ _ _ d2, ?_⟩
  rw [if_neg (by decide), hc _ _ _ _ r1 d2]
  exact k _ F H at0 (Dp.bl _) (Ex.refl F)
theorem ev_neg (ha : EV R a Γ C (.int i)) : EV R (.UnaryOp .USub a pos) Γ C (.int (-i)) := fun Q q σ F H at0 QV k => by
  refine wE_of (pe_un un_neg pe_w) ?_
  refine ha (fun s C' => s = .int i ∧ C' = C) ⟨rfl, rfl⟩ σ F H at0 _ fun v s F1 H1 C1 a1 r1 e1 h1 => ?_
  obtain ⟨rfl, rfl⟩ := h1
  rw [sat_int r1]
  exact ⟨i, rfl, k _ (.int (-i)) F1 H1 C1 a1 (Dp.int _) e1 q⟩
/-- chains of ints -/
theorem tv_chain {c : Expr} {op op' : CmpOp} {g g' : Int → Int → Bool} {k : Int} (ho : OpR R.X (compareOp op) (rI0 fun i j => .bl (g i j))) (ho' : OpR R.X (compareOp op') (rI0 fun i j => .bl (g' i j))) (ha : EV R a Γ C (.int i)) (hb : EV R b Γ C (.int j)) (hc : EV R c Γ C (.int k))
    (pt : PT R.X (.Compare a [op, op'] [b, c] pos) (tTest (tChain (rI0 fun i j => .bl (g i j)) (rI0 fun i j => .bl (g' i j)) (wE R.X a) (wE R.X b) (wE R.X c)))) : TV R (.Compare a [op, op'] [b, c] pos) Γ C (g i j && g' j k) := fun Q q σ F H at0 QV kk => by
  refine wT_of pt ?_
  refine ha (fun s C' => s = .int i ∧ C' = C) ⟨rfl, rfl⟩ σ F H at0 _ fun v s F1 H1 C1 a1 r1 e1 h1 => ?_
  obtain ⟨rfl, rfl⟩ := h1
  refine hb (fun s C' => s = .int j ∧ C' = C1) ⟨rfl, rfl⟩ σ F1 H1 a1 _ fun v2 s F2 H2 C2 a2 r2 e2 h2 => ?_
  obtain ⟨rfl, rfl⟩ := h2
  rw [sat_int r1, sat_int r2]
  refine ⟨i, j, rfl, rfl, g i j, rfl, ?_⟩
  cases hg : g i j with
  | true =>
    rw [if_pos rfl]
    refine hc (fun s C' => s = .int k ∧ C' = C2) ⟨rfl, rfl⟩ σ F2 H2 a2 _ fun v3 s F3 H3 C3 a3 r3 e3 h3 => ?_
    obtain ⟨rfl, rfl⟩ := h3
    rw [sat_int r3]
    refine ⟨j, k, rfl, rfl, g' j k, rfl, kk _ F3 H3 C3 a3 ((e1.trans e2).trans e3) ?_⟩
    rw [hg] at q
    exact q
  | false =>
    rw [if_neg (by decide)]
    refine ⟨false, rfl, kk _ F2 H2 C2 a2 (e1.trans e2) ?_⟩
    rw [hg] at q
    exact q
end
end
end Dl

namespace Dl
open PySem PySem.Spec PyProof.Rows L2
section
variable {R : Rx} {Γ : Gm} {C C' : Cells} {σ : L2.St} {F H F' H' : Hp}

/-! ### argument lists, displays -/
theorem av_nil : AV R [] Γ C [] := fun Q q σ F H a QV k => wA_of pa_nil (k [] [] F H C a .nil (Ex.refl F) q)
theorem ea_nil {Q : List SV → Cells → Prop} (q : Q [] C) : EA R [] Γ C Q := av_nil Q q
theorem ea_cons {e : Expr} {es : List Expr} {Q : List SV → Cells → Prop} (h : EE R e Γ C fun s C1 => EA R es Γ C1 fun ss C2 => Q (s :: ss) C2) (hs : starEach (e :: es) R.X.env = (false, eval e R.X.env) :: starEach es R.X.env := by rfl) : EA R (e :: es) Γ C Q := fun σ F H a QV k => by
  refine wA_of (pa_cons pe_w pa_w hs) ?_
  refine h σ F H a _ fun v s F1 H1 C1 a1 r1 e1 h1 => ?_
  exact h1 σ F1 H1 a1 _ fun vs ss F2 H2 C2 a2 r2 e2 h2 => k (v :: vs) (s :: ss) F2 H2 C2 a2 (.cons (r1.ex e2) r2) (e1.trans e2) h2
theorem av_cons {e : Expr} {es : List Expr} {s : SV} {ss : List SV} (h : EV R e Γ C s) (h2 : AV R es Γ C ss) (hs : starEach (e :: es) R.X.env = (false, eval e R.X.env) :: starEach es R.X.env := by rfl) : AV R (e :: es) Γ C (s :: ss) := fun Q q => ea_cons (h _ (h2 _ q)) hs
/-- a tuple of data -/
theorem ee_tup {es : List Expr} {x1 pos} {Q : SV → Cells → Prop} (h : EA R es Γ C fun ss C1 => ∃ ds, ss = ds.map SV.d ∧ ds.length ≤ sizeLine ∧ Q (.d (.tuple ds)) C1) : EE R (.Tuple es x1 pos) Γ C Q := fun σ F H a QV k => by
  refine wE_of (pe_tup pa_w) ?_
  refine h σ F H a _ fun vs ss F1 H1 C1 a1 r1 e1 h1 => ?_
  obtain ⟨ds, rfl, hl, q⟩ := h1
  have rd := sall_dp r1
  refine ⟨by rw [dpAll_len rd]; exact hl, fun p np => ?_⟩
  obtain ⟨a2, e2⟩ := a1.lay (o := .tup vs) np
  exact k _ (.d (.tuple ds)) _ _ C1 a2 (.tup (.inl (.inl upd_same)) (dpAll_ex e2 rd)) (e1.trans e2) q
theorem ev_tup {es : List Expr} {x1 pos} {ds : List PyData} (h : AV R es Γ C (ds.map SV.d)) (hl : ds.length ≤ sizeLine := by first | decide | (simp only [List.length_cons, List.length_nil]; decide)) : EV R (.Tuple es x1 pos) Γ C (.d (.tuple ds)) := fun Q q => ee_tup (h _ ⟨ds, rfl, hl, q⟩)
/-- a list that stays as it is -/
theorem ee_lst {es : List Expr} {pos} {Q : SV → Cells → Prop} (h : EA R es Γ C fun ss C1 => ∃ ds, ss = ds.map SV.d ∧ ds.length ≤ sizeLine ∧ Q (.d (.list ds)) C1) : EE R (.List es pos) Γ C Q := fun σ F H a QV k => by
  refine wE_of (pe_lst pa_w) ?_
  refine h σ F H a _ fun vs ss F1 H1 C1 a1 r1 e1 h1 => ?_
  obtain ⟨ds, rfl, hl, q⟩ := h1
  have rd := sall_dp r1
  refine ⟨by rw [dpAll_len rd]; exact hl, fun p np => ?_⟩
  obtain ⟨a2, e2⟩ := a1.lay (o := .lst vs) np
  exact k _ (.d (.list ds)) _ _ C1 a2 (.lst (.inl (.inl upd_same)) (dpAll_ex e2 rd)) (e1.trans e2) q
theorem ev_lst {es : List Expr} {pos} {ds : List PyData} (h : AV R es Γ C (ds.map SV.d)) (hl : ds.length ≤ sizeLine := by first | decide | (simp only [List.length_cons, List.length_nil]; decide)) : EV R (.List es pos) Γ C (.d (.list ds)) := fun Q q => ee_lst (h _ ⟨ds, rfl, hl, q⟩)
/-- a list that may change: a cell -/
theorem ee_lstC {es : List Expr} {pos} {Q : SV → Cells → Prop} (h : EA R es Γ C fun ss C1 => ss.length ≤ sizeLine ∧ ∀ p, C1 p = none → Q (.c p) (cupd C1 p (.lst ss))) : EE R (.List es pos) Γ C Q := fun σ F H a QV k => by
  refine wE_of (pe_lst pa_w) ?_
  refine h σ F H a _ fun vs ss F1 H1 C1 a1 r1 e1 h1 => ?_
  refine ⟨by rw [Paired.length r1]; exact h1.1, fun p np => ?_⟩
  exact k _ (.c p) _ _ _ (a1.cell (c := .lst ss) np ⟨vs, upd_same, r1⟩) rfl e1 (h1.2 p (a1.g.sl np).2)

/-! ### subscripts -/
theorem ov_ixT {ds : List PyData} {i : Int} {d : PyData} (h : atI ds i = some d) : OV R Γ C (rIxT R.X.K) (.d (.tuple ds)) (.int i) (.d d) := fun σ F H a v u r1 r2 QV k => by
  obtain ⟨p, xs, rfl, s, rd⟩ := sat_tup r1
  rw [sat_int r2]
  obtain ⟨v, h1, h2⟩ := dpAll_atI rd h
  exact ⟨p, xs, i, v, rfl, rfl, a.g.sub.sqT s, h1, k v F H a h2 (Ex.refl F)⟩
theorem ov_ixL {ds : List PyData} {i : Int} {d : PyData} (h : atI ds i = some d) : OV R Γ C (rIxL R.X.K) (.d (.list ds)) (.int i) (.d d) := fun σ F H a v u r1 r2 QV k => by
  obtain ⟨p, xs, rfl, s, rd⟩ := sat_lst r1
  rw [sat_int r2]
  obtain ⟨v, h1, h2⟩ := dpAll_atI rd h
  exact ⟨p, xs, i, v, rfl, rfl, a.g.sub.sqL s, h1, k v F H a h2 (Ex.refl F)⟩
theorem ov_ixC {p : Addr} {ss : List SV} {i : Int} {s : SV} (hc : C p = some (.lst ss)) (h : atI ss i = some s) : OV R Γ C (rIxL R.X.K) (.c p) (.int i) s := fun σ F H a v u r1 r2 QV k => by
  obtain ⟨vs, hv, r⟩ := a.g.cel p _ hc
  have e : v = .ref p := r1
  subst e
  rw [sat_int r2]
  obtain ⟨v, h1, h2⟩ := sall_atI r h
  exact ⟨p, vs, i, v, rfl, rfl, .inl (.inl hv), h1, k v F H a h2 (Ex.refl F)⟩
theorem ov_ixS {z : Str} {i : Int} {c : Nat} (hl : z.length ≤ sizeLine) (h : atI z.cps.toList i = some c) : OV R Γ C rIxS (.str z) (.int i) (.str ⟨#[c]⟩) := fun σ F H a v u r1 r2 QV k => by
  rw [sat_str r1, sat_int r2]
  exact ⟨z, i, c, rfl, rfl, hl, h, k _ F H a (Dp.str _) (Ex.refl F)⟩
section
variable {a b : Expr} {pos : Pos} {i : Int}
theorem ev_ixT {ds : List PyData} {d : PyData} (ha : EV R a Γ C (.d (.tuple ds))) (hb : EV R b Γ C (.int i)) (h : atI ds i = some d) (hs : PlainIx b := by exact fun _ _ => rfl) : EV R (.Subscript a b pos) Γ C (.d d) := ev_op2 (pe_ix ix_tup pe_w pe_w hs) ha hb (ov_ixT h)
theorem ev_ixL {ds : List PyData} {d : PyData} (ha : EV R a Γ C (.d (.list ds))) (hb : EV R b Γ C (.int i)) (h : atI ds i = some d) (hs : PlainIx b := by exact fun _ _ => rfl) : EV R (.Subscript a b pos) Γ C (.d d) := ev_op2 (pe_ix ix_list pe_w pe_w hs) ha hb (ov_ixL h)
theorem ev_ixC {p : Addr} {ss : List SV} {s : SV} (ha : EV R a Γ C (.c p)) (hb : EV R b Γ C (.int i)) (hc : C p = some (.lst ss)) (h : atI ss i = some s) (hs : PlainIx b := by exact fun _ _ => rfl) : EV R (.Subscript a b pos) Γ C s := ev_op2 (pe_ix ix_list pe_w pe_w hs) ha hb (ov_ixC hc h)
theorem ev_ixS {z : Str} {c : Nat} (ha : EV R a Γ C (.str z)) (hb : EV R b Γ C (.int i)) (hl : z.length ≤ sizeLine) (h : atI z.cps.toList i = some c) (hs : PlainIx b := by exact fun _ _ => rfl) : EV R (.Subscript a b pos) Γ C (.str ⟨#[c]⟩) := ev_op2 (pe_ix ix_str pe_w pe_w hs) ha hb (ov_ixS hl h)
end

/-! ### calls of built-ins by name: one value out -/
/-- what a call makes of values -/
def CV (R : Rx) (Γ : Gm) (C : Cells) (r : List V → Hp → VK → Prop) (ss : List SV) (z : SV) : Prop := ∀ σ F H, At R σ Γ F H C → ∀ vs, SAll R.X.K F vs ss → ∀ QV : VK, (∀ w F' H', At R σ Γ F' H' C → SAt R.X.K F' w z → Ex F F' → QV w H') → r vs H QV
theorem ev_cb {e : Expr} {es : List Expr} {r : List V → Hp → VK → Prop} {ss : List SV} {z : SV} (pe : PE R.X e (tCB r (wA R.X es))) (ha : AV R es Γ C ss) (o : CV R Γ C r ss z) : EV R e Γ C z := fun Q q σ F H at0 QV k => by
  refine wE_of pe ?_
  refine ha (fun s C' => s = ss ∧ C' = C) ⟨rfl, rfl⟩ σ F H at0 _ fun v s F1 H1 C1 a1 r1 e1 h1 => ?_
  obtain ⟨rfl, rfl⟩ := h1
  exact o σ F1 H1 a1 v r1 QV fun w F3 H3 a3 r3 e3 => k w z F3 H3 C1 a3 r3 (e1.trans e3) q
section
variable {e : Expr} {es : List Expr} {p pos : Pos}
theorem sall1 {K : PySem.W.Frag} {vs : List V} {s : SV} (h : SAll K F vs [s]) : ∃ v, vs = [v] ∧ SAt K F v s := by
  cases h with
  | cons r t => cases t; exact ⟨_, rfl, r⟩
theorem sall2 {K : PySem.W.Frag} {vs : List V} {s s2 : SV} (h : SAll K F vs [s, s2]) : ∃ v u, vs = [v, u] ∧ SAt K F v s ∧ SAt K F u s2 := by
  cases h with
  | cons r t => obtain ⟨u, rfl, q⟩ := sall1 t; exact ⟨_, u, rfl, r, q⟩
theorem ev_lenL {ds : List PyData} (hm : R.X.mg "len" = none) (ha : EV R e Γ C (.d (.list ds))) (hg : Gl R.X "len" := by rfl) (hs : starEach [e] R.X.env = (false, eval e R.X.env) :: starEach [] R.X.env := by rfl) (hpl : (backTo pos (starEach [] R.X.env)).any (·.1) = false := by rfl) : EV R (.Call (.Name "len" p) [e] [] pos) Γ C (.int ds.length) :=
  ev_cb (pe_callB call_len hg hm PySem.boot_len pa_w (by decide) (by decide) hs hpl) (av_cons ha av_nil hs) fun σ F H at0 vs r QV k => by
    obtain ⟨v, rfl, r1⟩ := sall1 r
    obtain ⟨q, xs, rfl, s, rd⟩ := sat_lst r1
    exact ⟨_, ds.length, rfl, .inl ⟨xs, at0.g.sub.sqL s, (dpAll_len rd).symm⟩, k _ F H at0 (Dp.int _) (Ex.refl F)⟩
theorem ev_lenT {ds : List PyData} (hm : R.X.mg "len" = none) (ha : EV R e Γ C (.d (.tuple ds))) (hg : Gl R.X "len" := by rfl) (hs : starEach [e] R.X.env = (false, eval e R.X.env) :: starEach [] R.X.env := by rfl) (hpl : (backTo pos (starEach [] R.X.env)).any (·.1) = false := by rfl) : EV R (.Call (.Name "len" p) [e] [] pos) Γ C (.int ds.length) :=
  ev_cb (pe_callB call_len hg hm PySem.boot_len pa_w (by decide) (by decide) hs hpl) (av_cons ha av_nil hs) fun σ F H at0 vs r QV k => by
    obtain ⟨v, rfl, r1⟩ := sall1 r
    obtain ⟨q, xs, rfl, s, rd⟩ := sat_tup r1
    exact ⟨_, ds.length, rfl, .inr ⟨xs, at0.g.sub.sqT s, (dpAll_len rd).symm⟩, k _ F H at0 (Dp.int _) (Ex.refl F)⟩
theorem ev_lenS {z : Str} (hm : R.X.mg "len" = none) (ha : EV R e Γ C (.str z)) (hl : z.length ≤ sizeLine) (hg : Gl R.X "len" := by rfl) (hs : starEach [e] R.X.env = (false, eval e R.X.env) :: starEach [] R.X.env := by rfl) (hpl : (backTo pos (starEach [] R.X.env)).any (·.1) = false := by rfl) : EV R (.Call (.Name "len" p) [e] [] pos) Γ C (.int z.length) :=
  ev_cb (pe_callB call_len hg hm PySem.boot_len pa_w (by decide) (by decide) hs hpl) (av_cons ha av_nil hs) fun σ F H at0 vs r QV k => by
    obtain ⟨v, rfl, r1⟩ := sall1 r
    rw [sat_str r1]
    exact ⟨_, z.length, rfl, ⟨hl, rfl⟩, k _ F H at0 (Dp.int _) (Ex.refl F)⟩
theorem ev_lenC {q : Addr} {ss : List SV} (hm : R.X.mg "len" = none) (ha : EV R e Γ C (.c q)) (hc : C q = some (.lst ss)) (hg : Gl R.X "len" := by rfl) (hs : starEach [e] R.X.env = (false, eval e R.X.env) :: starEach [] R.X.env := by rfl) (hpl : (backTo pos (starEach [] R.X.env)).any (·.1) = false := by rfl) : EV R (.Call (.Name "len" p) [e] [] pos) Γ C (.int ss.length) :=
  ev_cb (pe_callB call_len hg hm PySem.boot_len pa_w (by decide) (by decide) hs hpl) (av_cons ha av_nil hs) fun σ F H at0 vs r QV k => by
    obtain ⟨v, rfl, r1⟩ := sall1 r
    obtain ⟨xs, hv, rr⟩ := at0.g.cel q _ hc
    have e : v = .ref q := r1
    subst e
    exact ⟨_, ss.length, rfl, .inl ⟨xs, .inl (.inl hv), (Paired.length rr).symm⟩, k _ F H at0 (Dp.int _) (Ex.refl F)⟩
theorem ev_abs {i : Int} (hm : R.X.mg "abs" = none) (ha : EV R e Γ C (.int i)) (hg : Gl R.X "abs" := by rfl) (hs : starEach [e] R.X.env = (false, eval e R.X.env) :: starEach [] R.X.env := by rfl) (hpl : (backTo pos (starEach [] R.X.env)).any (·.1) = false := by rfl) : EV R (.Call (.Name "abs" p) [e] [] pos) Γ C (.int (if i < 0 then -i else i)) :=
  ev_cb (pe_callB call_abs hg hm (by decide +kernel) pa_w (by decide) (by decide) hs hpl) (av_cons ha av_nil hs) fun σ F H at0 vs r QV k => by
    obtain ⟨v, rfl, r1⟩ := sall1 r
    rw [sat_int r1]
    exact ⟨i, rfl, k _ F H at0 (Dp.int _) (Ex.refl F)⟩
theorem ev_strI {i : Int} (hm : R.X.mg "str" = none) (ha : EV R e Γ C (.int i)) (hi : i.natAbs.log2 < 1920) (hg : Gl R.X "str" := by rfl) (hs : starEach [e] R.X.env = (false, eval e R.X.env) :: starEach [] R.X.env := by rfl) (hpl : (backTo pos (starEach [] R.X.env)).any (·.1) = false := by rfl) : EV R (.Call (.Name "str" p) [e] [] pos) Γ C (.str (toString i)) :=
  ev_cb (pe_callTy call_str_int hg hm (by decide +kernel) pa_w (by decide) (by decide) hs hpl) (av_cons ha av_nil hs) fun σ F H at0 vs r QV k => by
    obtain ⟨v, rfl, r1⟩ := sall1 r
    rw [sat_int r1]
    exact ⟨i, rfl, hi, k _ F H at0 (Dp.str _) (Ex.refl F)⟩
end

/-! ### tests, and, or, not, if else -/
theorem tv_val {e : Expr} {b : Bool} (h : EV R e Γ C (.bl b)) (he : ∀ whole, isTrue e R.X.env whole = (do let v ← whole; standAt e.pos; holding [v] (truthy v)) := by intro _; rfl) : TV R e Γ C b := fun Q q σ F H a QV k => by
  refine wT_of (pt_val pe_w he) ?_
  refine h (fun s C' => s = .bl b ∧ C' = C) ⟨rfl, rfl⟩ σ F H a _ fun v s F1 H1 C1 a1 r1 e1 h1 => ?_
  obtain ⟨rfl, rfl⟩ := h1
  exact ⟨b, sat_bl r1, k b F1 H1 C1 a1 e1 q⟩
theorem et_val {e : Expr} {Q : Bool → Cells → Prop} (h : EE R e Γ C fun s C' => ∃ b, s = .bl b ∧ Q b C') (he : ∀ whole, isTrue e R.X.env whole = (do let v ← whole; standAt e.pos; holding [v] (truthy v)) := by intro _; rfl) : ET R e Γ C Q := fun σ F H a QV k => by
  refine wT_of (pt_val pe_w he) ?_
  refine h σ F H a _ fun v s F1 H1 C1 a1 r1 e1 h1 => ?_
  obtain ⟨b, rfl, q⟩ := h1
  exact ⟨b, sat_bl r1, k b F1 H1 C1 a1 e1 q⟩
section
variable {a b : Expr} {rest : List Expr} {pos : Pos} {p q : Bool}
theorem et_w {e : Expr} {Q : Bool → Cells → Prop} (h : EW R e Γ C Q) : ET R e Γ C Q := fun σ F H at0 QV k => wT_of pw_w.pt (h σ F H at0 QV k)
theorem tv_w {e : Expr} (h : WV R e Γ C p) : TV R e Γ C p := fun Q q => et_w (h Q q)
theorem ew_and1 {Q : Bool → Cells → Prop} (h : ET R a Γ C Q) : EW R (.BoolOp .And [a] pos) Γ C Q := fun σ F H at0 QV k => wW_of (pw_and1 pt_w) (h σ F H at0 QV k)
theorem ew_or1 {Q : Bool → Cells → Prop} (h : ET R a Γ C Q) : EW R (.BoolOp .Or [a] pos) Γ C Q := fun σ F H at0 QV k => wW_of (pw_or1 pt_w) (h σ F H at0 QV k)
theorem ew_and {Q : Bool → Cells → Prop} (h : ET R a Γ C fun c C1 => (c = true → EW R (.BoolOp .And (b :: rest) pos) Γ C1 Q) ∧ (c = false → Q false C1)) : EW R (.BoolOp .And (a :: b :: rest) pos) Γ C Q := fun σ F H at0 QV k => by
  refine wW_of (pw_and pt_w pw_w) ?_
  refine h σ F H at0 _ fun c F1 H1 C1 a1 e1 h1 => ?_
  cases c with
  | true => exact iteT (h1.1 rfl σ F1 H1 a1 QV fun c F2 H2 C2 a2 e2 => k c F2 H2 C2 a2 (e1.trans e2))
  | false => exact iteF (k false F1 H1 C1 a1 e1 (h1.2 rfl))
theorem ew_or {Q : Bool → Cells → Prop} (h : ET R a Γ C fun c C1 => (c = false → EW R (.BoolOp .Or (b :: rest) pos) Γ C1 Q) ∧ (c = true → Q true C1)) : EW R (.BoolOp .Or (a :: b :: rest) pos) Γ C Q := fun σ F H at0 QV k => by
  refine wW_of (pw_or pt_w pw_w) ?_
  refine h σ F H at0 _ fun c F1 H1 C1 a1 e1 h1 => ?_
  cases c with
  | true => exact iteT (k true F1 H1 C1 a1 e1 (h1.2 rfl))
  | false => exact iteF (h1.1 rfl σ F1 H1 a1 QV fun c F2 H2 C2 a2 e2 => k c F2 H2 C2 a2 (e1.trans e2))
theorem wv_and1 (h : TV R a Γ C p) : WV R (.BoolOp .And [a] pos) Γ C p := fun Q q => ew_and1 (h Q q)
theorem wv_or1 (h : TV R a Γ C p) : WV R (.BoolOp .Or [a] pos) Γ C p := fun Q q => ew_or1 (h Q q)
theorem wv_and (h : TV R a Γ C p) (h2 : p = true → WV R (.BoolOp .And (b :: rest) pos) Γ C q) : WV R (.BoolOp .And (a :: b :: rest) pos) Γ C (p && q) := fun Q z => ew_and (h _ ⟨fun e => by subst e; exact h2 rfl _ z, fun e => by subst e; exact z⟩)
theorem wv_or (h : TV R a Γ C p) (h2 : p = false → WV R (.BoolOp .Or (b :: rest) pos) Γ C q) : WV R (.BoolOp .Or (a :: b :: rest) pos) Γ C (p || q) := fun Q z => ew_or (h _ ⟨fun e => by subst e; exact h2 rfl _ z, fun e => by subst e; exact z⟩)
theorem et_not {Q : Bool → Cells → Prop} (h : ET R a Γ C fun c C1 => Q (!c) C1) : ET R (.UnaryOp .Not a pos) Γ C Q := fun σ F H at0 QV k => by
  refine wT_of (pt_not pt_w) ?_
  exact h σ F H at0 _ fun c F1 H1 C1 a1 e1 h1 => k (!c) F1 H1 C1 a1 e1 h1
theorem tv_not (h : TV R a Γ C p) : TV R (.UnaryOp .Not a pos) Γ C (!p) := fun Q q => et_not (h _ q)
theorem ev_one {op : BoolOp} {s : SV} (h : EV R a Γ C s) : EV R (.BoolOp op [a] pos) Γ C s := fun Q q σ F H at0 QV k => wE_of (pe_one pe_w) (h Q q σ F H at0 QV k)
theorem ee_one {op : BoolOp} {Q : SV → Cells → Prop} (h : EE R a Γ C Q) : EE R (.BoolOp op [a] pos) Γ C Q := fun σ F H at0 QV k => wE_of (pe_one pe_w) (h σ F H at0 QV k)
theorem ee_and {Q : SV → Cells → Prop} (h : EE R a Γ C fun s C1 => ∃ c, s = .bl c ∧ (c = true → EE R (.BoolOp .And (b :: rest) pos) Γ C1 Q) ∧ (c = false → Q (.bl false) C1)) : EE R (.BoolOp .And (a :: b :: rest) pos) Γ C Q := fun σ F H at0 QV k => by
  refine wE_of (pe_and pe_w pe_w) ?_
  refine h σ F H at0 _ fun v s F1 H1 C1 a1 r1 e1 h1 => ?_
  obtain ⟨c, rfl, h2, h3⟩ := h1
  refine ⟨c, sat_bl r1, ?_⟩
  cases c with
  | true => exact iteT (h2 rfl σ F1 H1 a1 QV fun v s F2 H2 C2 a2 r2 e2 => k v s F2 H2 C2 a2 r2 (e1.trans e2))
  | false => exact iteF (k _ (.bl false) F1 H1 C1 a1 (Dp.bl _) e1 (h3 rfl))
theorem ee_or {Q : SV → Cells → Prop} (h : EE R a Γ C fun s C1 => ∃ c, s = .bl c ∧ (c = false → EE R (.BoolOp .Or (b :: rest) pos) Γ C1 Q) ∧ (c = true → Q (.bl true) C1)) : EE R (.BoolOp .Or (a :: b :: rest) pos) Γ C Q := fun σ F H at0 QV k => by
  refine wE_of (pe_or pe_w pe_w) ?_
  refine h σ F H at0 _ fun v s F1 H1 C1 a1 r1 e1 h1 => ?_
  obtain ⟨c, rfl, h2, h3⟩ := h1
  refine ⟨c, sat_bl r1, ?_⟩
  cases c with
  | true => exact iteT (k _ (.bl true) F1 H1 C1 a1 (Dp.bl _) e1 (h3 rfl))
  | false => exact iteF (h2 rfl σ F1 H1 a1 QV fun v s F2 H2 C2 a2 r2 e2 => k v s F2 H2 C2 a2 r2 (e1.trans e2))
theorem ev_and (h : EV R a Γ C (.bl p)) (h2 : p = true → EV R (.BoolOp .And (b :: rest) pos) Γ C (.bl q)) : EV R (.BoolOp .And (a :: b :: rest) pos) Γ C (.bl (p && q)) := fun Q z => ee_and (h _ ⟨p, rfl, fun e => by subst e; exact h2 rfl _ z, fun e => by subst e; exact z⟩)
theorem ev_or (h : EV R a Γ C (.bl p)) (h2 : p = false → EV R (.BoolOp .Or (b :: rest) pos) Γ C (.bl q)) : EV R (.BoolOp .Or (a :: b :: rest) pos) Γ C (.bl (p || q)) := fun Q z => ee_or (h _ ⟨p, rfl, fun e => by subst e; exact h2 rfl _ z, fun e => by subst e; exact z⟩)
theorem ev_not (h : EV R a Γ C (.bl p)) : EV R (.UnaryOp .Not a pos) Γ C (.bl (!p)) := fun Q z σ F H at0 QV k => by
  refine wE_of (pe_not pe_w) ?_
  refine h (fun s C' => s = .bl p ∧ C' = C) ⟨rfl, rfl⟩ σ F H at0 _ fun v s F1 H1 C1 a1 r1 e1 h1 => ?_
  obtain ⟨rfl, rfl⟩ := h1
  exact ⟨p, sat_bl r1, k _ (.bl (!p)) F1 H1 C1 a1 (Dp.bl _) e1 z⟩
theorem ee_if {c : Expr} {Q : SV → Cells → Prop} (h : ET R c Γ C fun p C1 => (p = true → EE R a Γ C1 Q) ∧ (p = false → EE R b Γ C1 Q)) : EE R (.IfExp c a b pos) Γ C Q := fun σ F H at0 QV k => by
  refine wE_of (pe_ifExp pt_w pe_w pe_w) ?_
  refine h σ F H at0 _ fun c F1 H1 C1 a1 e1 h1 => ?_
  cases c with
  | true => exact iteT (h1.1 rfl σ F1 H1 a1 QV fun v s F2 H2 C2 a2 r2 e2 => k v s F2 H2 C2 a2 r2 (e1.trans e2))
  | false => exact iteF (h1.2 rfl σ F1 H1 a1 QV fun v s F2 H2 C2 a2 r2 e2 => k v s F2 H2 C2 a2 r2 (e1.trans e2))
theorem ev_if {c : Expr} {s : SV} (h : TV R c Γ C p) (h1 : p = true → EV R a Γ C s) (h2 : p = false → EV R b Γ C s) : EV R (.IfExp c a b pos) Γ C s := fun Q q => ee_if (h _ ⟨fun e => h1 e Q q, fun e => h2 e Q q⟩)
end

/-! ### statements -/
section
variable {st : Stmt} {rest : List Stmt} {N : Nx} {e : Expr} {pos : Pos}
theorem ss_nil (q : N.nx Γ C) : SS R [] Γ C N := fun σ F H a D ok => wSs_of pss_nil (ok.nx σ Γ F H C a (Ex.refl F) q)
theorem ss_cons (h : S1 R st Γ C { N with nx := fun Γ' C' => SS R rest Γ' C' N }) : SS R (st :: rest) Γ C N := fun σ F H a D ok => by
  refine wSs_of (pss_cons ps_w pss_w) ?_
  exact h σ F H a _ ⟨fun σ Γ F H C a e q => q σ F H a D (ok.ex e), ok.rt, ok.bk, ok.ct⟩
theorem ss_one (h : S1 R st Γ C N) : SS R [st] Γ C N := fun σ F H a D ok => wSs_of (pss_one ps_w) (h σ F H a D ok)
theorem s_pass (q : N.nx Γ C) : S1 R (.Pass pos) Γ C N := fun σ F H a D ok => wS_of ps_pass (ok.nx σ Γ F H C a (Ex.refl F) q)
theorem s_break (q : N.bk Γ C) : S1 R (.Break pos) Γ C N := fun σ F H a D ok => wS_of ps_break (ok.bk σ Γ F H C a (Ex.refl F) q)
theorem s_cont (q : N.ct Γ C) : S1 R (.Continue pos) Γ C N := fun σ F H a D ok => wS_of ps_continue (ok.ct σ Γ F H C a (Ex.refl F) q)
theorem s_expr (h : EE R e Γ C fun _ C' => N.nx Γ C') (hs : swapsWith e none pos.line R.X.env = pure false := by rfl) : S1 R (.Expr e pos) Γ C N := fun σ F H a D ok => by
  refine wS_of (ps_expr pe_w hs) ?_
  exact h σ F H a _ fun v s F' H' C' a' r e q => ok.nx σ Γ F' H' C' a' e q
theorem s_ret (h : EE R e Γ C N.rt) : S1 R (.Return (some e) pos) Γ C N := fun σ F H a D ok => by
  refine wS_of (ps_ret pe_w) ?_
  exact h σ F H a _ fun v s F' H' C' a' r e q => ok.rt σ Γ F' H' C' v s a' e r q
theorem s_retv {s : SV} (h : EV R e Γ C s) (q : N.rt s C) : S1 R (.Return (some e) pos) Γ C N := s_ret (h _ q)
theorem s_retN (q : N.rt .non C) : S1 R (.Return none pos) Γ C N := fun σ F H a D ok => wS_of ps_retN (ok.rt σ Γ F H C .non .non a (Ex.refl F) .non q)
theorem At.set (a : At R σ Γ F H C) {v : V} {s : SV} (r : SAt R.X.K F v s) (i : Nat) : At R (σ.set i (some v)) (Γ.set i (some s)) F H C := by
  refine ⟨a.st, a.g, fun j s' h => ?_, by rw [List.length_set, List.length_set]; exact a.ln⟩
  by_cases hj : i = j
  · subst hj
    by_cases hl : i < Γ.length
    · rw [List.getElem?_set_self hl] at h
      cases h
      exact ⟨v, List.getElem?_set_self (by rw [a.ln]; exact hl), r⟩
    · rw [List.getElem?_eq_none (by rw [List.length_set]; omega)] at h
      cases h
  · rw [List.getElem?_set_ne hj] at h
    rw [List.getElem?_set_ne hj]
    exact a.sl j s' h
/-- x = e -/
theorem s_set (i : Nat) {x : Str} {pos' : Pos} (h : EE R e Γ C fun s C' => N.nx (Γ.set i (some s)) C') (hN : R.X.N.Nodup) (hi : R.X.N[i]? = some x := by rfl) (hx : Loc R.X.env.scope x := by first | exact Or.inl rfl | exact Or.inr rfl) (hs : swapsWith e (some (.Name x pos')) pos.line R.X.env = pure false := by rfl) (hf : R.X.fn x = true ∨ R.X.env.scope.names.lookup x = some .local := by first | exact .inl rfl | exact .inr rfl) :
    S1 R (.Assign [.Name x pos'] e pos) Γ C N := fun σ F H a D ok => by
  refine wS_of (ps_set hN hi hx pe_w hs hf) ?_
  exact h σ F H a _ fun v s F' H' C' a' r e q => ok.nx _ _ F' H' C' (a'.set r i) e q
theorem s_setv (i : Nat) {x : Str} {pos' : Pos} {s : SV} (h : EV R e Γ C s) (q : N.nx (Γ.set i (some s)) C) (hN : R.X.N.Nodup) (hi : R.X.N[i]? = some x := by rfl) (hx : Loc R.X.env.scope x := by first | exact Or.inl rfl | exact Or.inr rfl) (hs : swapsWith e (some (.Name x pos')) pos.line R.X.env = pure false := by rfl) (hf : R.X.fn x = true ∨ R.X.env.scope.names.lookup x = some .local := by first | exact .inl rfl | exact .inr rfl) :
    S1 R (.Assign [.Name x pos'] e pos) Γ C N := s_set i (h _ q) hN hi hx hs hf
theorem s_if {c : Expr} {a b : List Stmt} (h : ET R c Γ C fun p C1 => (p = true → SS R a Γ C1 N) ∧ (p = false → SS R b Γ C1 N)) : S1 R (.If c a b pos) Γ C N := fun σ F H at0 D ok => by
  refine wS_of (ps_if pt_w pss_w pss_w) ?_
  refine h σ F H at0 _ fun p F1 H1 C1 a1 e1 h1 => ?_
  cases p with
  | true => exact iteT (h1.1 rfl σ F1 H1 a1 D (ok.ex e1))
  | false => exact iteF (h1.2 rfl σ F1 H1 a1 D (ok.ex e1))
theorem s_ifv {c : Expr} {a b : List Stmt} {p : Bool} (h : TV R c Γ C p) (h1 : p = true → SS R a Γ C N) (h2 : p = false → SS R b Γ C N) : S1 R (.If c a b pos) Γ C N := s_if (h _ ⟨h1, h2⟩)
end

/-! ### while -/
theorem s_while {c : Expr} {body : List Stmt} {pos : Pos} {N : Nx} (hp : PassesOwn (model R.X.prog R.X.w) R.X.A R.X.env R.X.xe) (W : Nat → Gm → Cells → Prop) (m0 : Nat) (w0 : W m0 Γ C)
    (turn : ∀ m Γ C, W m Γ C → ET R c Γ C fun b C1 => (b = true → SS R body Γ C1 { N with nx := fun Γ' C' => ∃ m', m' < m ∧ W m' Γ' C', ct := fun Γ' C' => ∃ m', m' < m ∧ W m' Γ' C', bk := N.nx }) ∧ (b = false → N.nx Γ C1)) : S1 R (.While c body [] pos) Γ C N := fun σ F H at0 D ok => by
  refine wS_of (ps_while hp pt_w pss_w) ?_
  refine ⟨fun m σ' H' => ∃ Γ' F' C', At R σ' Γ' F' H' C' ∧ Ex F F' ∧ W m Γ' C', ⟨m0, Γ, F, C, at0, Ex.refl F, w0⟩, ?_⟩
  rintro m σ1 H1 ⟨Γ1, F1, C1, a1, e1, w1⟩
  refine turn m Γ1 C1 w1 σ1 F1 H1 a1 _ fun b F2 H2 C2 a2 e2 h2 => ?_
  cases b with
  | true =>
    refine iteT ⟨fun σ' H' => ∃ m', m' < m ∧ ∃ Γ' F' C', At R σ' Γ' F' H' C' ∧ Ex F F' ∧ W m' Γ' C', fun σ' H' h => h, ?_⟩
    refine h2.1 rfl σ1 F2 H2 a2 _ ⟨fun σ' Γ' F' H' C' a' e q => ?_, fun σ' Γ' F' H' C' v s a' e => ok.rt σ' Γ' F' H' C' v s a' ((e1.trans e2).trans e), fun σ' Γ' F' H' C' a' e q => ok.nx σ' Γ' F' H' C' a' ((e1.trans e2).trans e) q, fun σ' Γ' F' H' C' a' e q => ?_⟩
    · obtain ⟨m', hm, w'⟩ := q
      exact ⟨m', hm, Γ', F', C', a', (e1.trans e2).trans e, w'⟩
    · obtain ⟨m', hm, w'⟩ := q
      exact ⟨m', hm, Γ', F', C', a', (e1.trans e2).trans e, w'⟩
  | false => exact iteF (ok.nx _ _ _ _ _ a2 (e1.trans e2) (h2.2 rfl))
end
end Dl

namespace Dl
open PySem PySem.Spec PyProof.Rows L2

/-! ### promises over data -/
abbrev DSp := List SV → Cells → (SV → Cells → Prop) → (Er → Cells → Prop) → Prop
def toSp (K : PySem.W.Frag) (sp : DSp) : Sp := fun vs H Q E => ∃ F C ss Q0 E0, G0 K F H C ∧ SAll K F vs ss ∧ sp ss C Q0 E0 ∧
  (∀ s C' v F' H', Q0 s C' → Step F H C F' H' C' → G0 K F' H' C' → SAt K F' v s → Q v H') ∧
  (∀ e C' F' H' cls dd, E0 e C' → Step F H C F' H' C' → G0 K F' H' C' → ErAt K F' e cls dd → E cls dd H')
/-- a body's entry -/
structure Bd where
  f : Addr
  cdv : Value
  A : Around
  outer : List Env
  s : Shared
  H : Hp
  E : XK
  F : Hp
  C : Cells
  er : Er → Cells → Prop
abbrev Rb (P : Program) (w : World) (K : PySem.W.Frag) (mg : Str → Option Value) (base : Heap) (N : List Str) (qual : Str) (sc : Scope) (b : Bd) : Rx :=
  ⟨cxOf (L2N.CX P w) P w K mg base N qual sc b.f b.cdv b.A b.outer b.s b.H b.E, b.F, b.H, b.C, fun _ => b.er⟩
def startG (N : List Str) (ss : List SV) : Gm := ss.map some ++ List.replicate (N.length - ss.length) none
theorem start_sl {K : PySem.W.Frag} {F : Hp} {N : List Str} {vs : List V} {ss : List SV} (h : SAll K F vs ss) : SlAt K F (L2.start N vs) (startG N ss) ∧ (L2.start N vs).length = (startG N ss).length := by
  have hl := Paired.length h
  refine ⟨fun i s e => ?_, by unfold L2.start startG; simp [hl]⟩
  unfold startG at e
  by_cases hi : i < ss.length
  · rw [List.getElem?_append_left (by simpa using hi), List.getElem?_map] at e
    cases q : ss[i]? with
    | none => rw [q] at e; cases e
    | some s' =>
      rw [q] at e
      cases e
      obtain ⟨v, h1, h2⟩ := sall_get h q
      refine ⟨v, ?_, h2⟩
      unfold L2.start
      rw [List.getElem?_append_left (by simpa [hl] using hi), List.getElem?_map, h1]
      rfl
  · rw [List.getElem?_append_right (by simpa using hi), List.getElem?_replicate] at e
    split at e <;> cases e

section
variable {P : Program} {w : World} {K : PySem.W.Frag} {mg : Str → Option Value} {base : Heap}
/-- a def by its body -/
theorem fn_ok {x qual : Str} {params : Arguments} {body : List Stmt} {scope : Scope} {f : Addr} {fd : FuncData} {N ps : List Str} {k : Nat} {sp : DSp} (Fd : FunD K x qual params body scope [] [] f fd) (S : FnScope N ps scope) (len : ∀ ss C Q E, sp ss C Q E → ss.length = ps.length)
    (hb : ∀ (b : Bd) (ss : List SV) (Q : SV → Cells → Prop), Tk (Rb P w K mg base N qual scope b) → Room k (Rb P w K mg base N qual scope b).X.A → sp ss b.C Q b.er → SS (Rb P w K mg base N qual scope b) body (startG N ss) b.C { nx := fun _ C' => Q .non C', rt := Q }) :
    FnOk P w K mg base (L2N.CX P w) (k + 1) f fd ps (toSp K sp) := by
  refine FunD.ok Fd S (fun vs H Q E h => ?_) fun cdv A outer s H vs Q E hr h => ?_
  · obtain ⟨F, C, ss, Q0, E0, g, r, hsp, _⟩ := h
    rw [Paired.length r]
    exact len _ _ _ _ hsp
  · obtain ⟨F, C, ss, Q0, E0, g, r, hsp, hQ, hE⟩ := h
    refine ⟨wSs _ body, pss_w, ?_⟩
    obtain ⟨hsl, hln⟩ := start_sl (N := N) r
    have a0 : At (Rb P w K mg base N qual scope ⟨f, cdv, A, outer, s, H, E, F, C, E0⟩) (L2.start N vs) (startG N ss) F H C := ⟨Step.refl F H C, g, hsl, hln⟩
    refine hb ⟨f, cdv, A, outer, s, H, E, F, C, E0⟩ ss Q0 ⟨fun cls d _ H => E cls d H, L2N.takes_of rfl rfl rfl rfl, fun σ Γ F' H' C' e cls dd a he hea => hE e C' F' H' cls dd he a.st a.g hea⟩ hr hsp (L2.start N vs) F H a0 _ ⟨fun σ Γ F' H' C' a _ q => ?_, fun σ Γ F' H' C' v s a _ r q => ?_, fun _ _ _ _ _ _ _ q => q, fun _ _ _ _ _ _ _ q => q⟩
    · exact hQ .non C' .non F' H' q a.st a.g .non
    · exact hQ s C' v F' H' q a.st a.g r

/-- a function of the module -/
def Fc (P : Program) (w : World) (K : PySem.W.Frag) (mg : Str → Option Value) (base : Heap) (x : Str) (k : Nat) (ps : List Str) (sp : DSp) : Prop :=
  ∃ f fd, mg x = some (.ref f) ∧ PySem.W.keepIn K (.ref f) = true ∧ Binds K fd ps [] ∧ FnOk P w K mg base (L2N.CX P w) k f fd ps (toSp K sp)
theorem Fc.mono {x : Str} {j k : Nat} {ps : List Str} {sp : DSp} (h : Fc P w K mg base x j ps sp) (l : j ≤ k) : Fc P w K mg base x k ps sp :=
  let ⟨f, fd, a, b, c, d⟩ := h
  ⟨f, fd, a, b, c, d.mono l⟩
/-- a weaker promise -/
theorem Fc.imp {x : Str} {k : Nat} {ps : List Str} {sp sp' : DSp} (h : Fc P w K mg base x k ps sp) (l : ∀ ss C Q E, sp' ss C Q E → sp ss C Q E) : Fc P w K mg base x k ps sp' :=
  let ⟨f, fd, a, b, c, d⟩ := h
  ⟨f, fd, a, b, c, d.imp fun vs H Q E ⟨F, C, ss, Q0, E0, g, r, hsp, q⟩ => ⟨F, C, ss, Q0, E0, g, r, l _ _ _ _ hsp, q⟩⟩
/-- a def of the text stands behind the name -/
def HasF (K : PySem.W.Frag) (mg : Str → Option Value) (x : Str) (st : Stmt) : Prop := ∃ f fd, mg x = some (.ref f) ∧ FunD K x x (defArgs st) (defBody st) (defScope st) [] [] f fd
theorem fc_of {x : Str} {st : Stmt} {N ps : List Str} {k : Nat} {sp : DSp} (h : HasF K mg x st) (S : FnScope N ps (defScope st))
    (hbd : ∀ (kV doc pm : Value) (an : Option Addr) (cdv ct : Value) (us : List Value), us.length = ps.length → bindArgs (PySem.W.fnOf x x (defArgs st) (defBody st) (defScope st) .none kV doc pm an cdv ct) ⟨us, []⟩ = pure (ps.zip us))
    (len : ∀ ss C Q E, sp ss C Q E → ss.length = ps.length)
    (hb : ∀ (b : Bd) (ss : List SV) (Q : SV → Cells → Prop), Tk (Rb P w K mg base N x (defScope st) b) → Room k (Rb P w K mg base N x (defScope st) b).X.A → sp ss b.C Q b.er → SS (Rb P w K mg base N x (defScope st) b) (defBody st) (startG N ss) b.C { nx := fun _ C' => Q .non C', rt := Q }) :
    Fc P w K mg base x (k + 1) ps sp := by
  obtain ⟨f, fd, hm, Fd⟩ := h
  exact ⟨f, fd, hm, Fd.kp, Fd.bindsN hbd, fn_ok Fd S len hb⟩
end

section
variable {R : Rx} {Γ : Gm} {C C' : Cells} {σ : L2.St} {F H F' H' : Hp}
/-! ### calls -/
theorem sp_go {K : PySem.W.Frag} {sp : DSp} {vs : List V} {ss : List SV} {Q : SV → Cells → Prop} {QV : VK} {W : WX} (a : At R σ Γ F H C) (hk : R.X.K = K)
    (hW : ∀ σ Γ F H C e cls dd, At R σ Γ F H C → R.er Γ e C → ErAt R.X.K F e cls dd → W cls dd σ H) (r : SAll R.X.K F vs ss) (k : ∀ v s F' H' C', At R σ Γ F' H' C' → SAt R.X.K F' v s → Ex F F' → Q s C' → QV v H') (h : sp ss C Q (R.er Γ)) :
    toSp K sp vs H QV fun cls dd H' => W cls dd σ H' := by
  subst hk
  refine ⟨F, C, ss, Q, R.er Γ, a.g, r, h, fun s C' v F' H' q st g rv => k v s F' H' C' (a.step st g) rv st.exF q, fun e C' F' H' cls dd q st g he => hW σ Γ F' H' C' e cls dd (a.step st g) q he⟩
theorem ee_call {x : Str} {k : Nat} {ps : List Str} {sp : DSp} {e : Expr} {es : List Expr} {p pos : Pos} {Q : SV → Cells → Prop} (G : Fc R.X.prog R.X.w R.X.K R.X.mg R.X.base x k ps sp) (hr : Room k R.X.A) (tk : Tk R) (h : EA R (e :: es) Γ C fun ss C1 => sp ss C1 Q (R.er Γ))
    (hg : Gl R.X x := by rfl) (hdb : (x == ("__debug__" : Str)) = false := by decide) (he : starEach (e :: es) R.X.env = (false, eval e R.X.env) :: starEach es R.X.env := by rfl) (hpl : (backTo pos (starEach es R.X.env)).any (·.1) = false := by rfl) :
    EE R (.Call (.Name x p) (e :: es) [] pos) Γ C Q := fun σ F H a QV kk => by
  obtain ⟨f, fd, hm, hk, hb, G⟩ := G
  obtain ⟨W, tk, hW⟩ := tk
  refine wE_of (pe_callS (E := WE W) G hr hg hm hk hb (L2N.passAt tk) pa_w hdb he hpl) ?_
  refine h σ F H a _ fun vs ss F1 H1 C1 a1 r1 e1 h1 => ?_
  exact sp_go a1 rfl hW r1 (fun v s F' H' C' a' r e q => kk v s F' H' C' a' r (e1.trans e) q) h1
theorem ev_call {x : Str} {k : Nat} {ps : List Str} {sp : DSp} {e : Expr} {es : List Expr} {ss : List SV} {s : SV} {p pos : Pos} (G : Fc R.X.prog R.X.w R.X.K R.X.mg R.X.base x k ps sp) (hr : Room k R.X.A) (tk : Tk R) (h : AV R (e :: es) Γ C ss) (hs : ∀ Q, Q s C → sp ss C Q (R.er Γ))
    (hg : Gl R.X x := by rfl) (hdb : (x == ("__debug__" : Str)) = false := by decide) (he : starEach (e :: es) R.X.env = (false, eval e R.X.env) :: starEach es R.X.env := by rfl) (hpl : (backTo pos (starEach es R.X.env)).any (·.1) = false := by rfl) :
    EV R (.Call (.Name x p) (e :: es) [] pos) Γ C s := fun Q q => ee_call G hr tk (h _ (hs Q q)) hg hdb he hpl
theorem Binds.nil {K : PySem.W.Frag} {fd : FuncData} {ps : List Str} (b : Binds K fd ps []) : Binds K fd ps [] := b

/-! ### own exceptions -/
structure HasX (K : PySem.W.Frag) (mg : Str → Option Value) (x : Str) (Cx : Addr) : Prop where
  g : mg x = some (.ref Cx)
  x : PySem.W.excIn K Cx He.veBase "ValueError.__new__" = true
  k : PySem.W.keepIn K (.ref Cx) = true
  s : PySem.W.subIn K (.ref Cx) (.type "BaseException") = some true
  t : PySem.W.typeIn K (.ref Cx) = some (.type "type")
theorem s_raise {x m : Str} {Cx : Addr} {j : Nat} {p p2 pos pos' : Pos} {N : Nx} (hx : HasX R.X.K R.X.mg x Cx) (hc : R.X.calm = true) (tk : Tk R) (h : R.er Γ ⟨Cx, none⟩ C) (hg : Gl R.X x := by rfl) (hdb : (x == ("__debug__" : Str)) = false := by decide) :
    S1 R (.Raise (some (.Call (.Name x p) [.Constant (.str m) j p2] [] pos)) none pos') Γ C N := fun σ F H a D ok => by
  obtain ⟨W, tk, hW⟩ := tk
  refine wS_of (L2N.ps_raise hc tk (L2N.pmk_own PySem.F.excBase_ValueError hx.x hx.g hx.k (raises_own hx.s hx.t) hg hdb)) ?_
  exact hW σ Γ F H C ⟨Cx, none⟩ _ _ a h ⟨rfl, rfl⟩

/-! ### targets -/
def wG (X : Cx) (tg : Expr) : TG := fun v σ H Q => ∀ pins s u, Inv X pins σ H s → RelV v u → wpAny (model X.prog X.w) X.A (assign tg X.env u) (fun _ s' => ∃ σ' H', Inv X pins σ' H' s' ∧ Q σ' H') X.xe s
theorem pg_w {X : Cx} {tg : Expr} : PG X tg (wG X tg) := ⟨fun pins s σ H v u Q I r h => h pins s u I r⟩
theorem wG_of {X : Cx} {tg : Expr} {t : TG} (p : PG X tg t) {v : V} {σ : L2.St} {H : Hp} {Q : L2.St → Hp → Prop} (h : t v σ H Q) : wG X tg v σ H Q := fun pins s u I r => p.run pins s σ H v u Q I r h
/-- a value goes to a target -/
def GV (R : Rx) (tg : Expr) (s : SV) (Γ : Gm) (C : Cells) (Qg : Gm → Cells → Prop) : Prop := ∀ σ F H, At R σ Γ F H C → ∀ v, SAt R.X.K F v s → ∀ QV : L2.St → Hp → Prop, (∀ σ' Γ' F' H' C', At R σ' Γ' F' H' C' → Ex F F' → Qg Γ' C' → QV σ' H') → wG R.X tg v σ H QV
theorem gv_name (i : Nat) {x : Str} {pos : Pos} {s : SV} {Qg : Gm → Cells → Prop} (q : Qg (Γ.set i (some s)) C) (hN : R.X.N.Nodup) (hi : R.X.N[i]? = some x := by rfl) (hx : Loc R.X.env.scope x := by first | exact Or.inl rfl | exact Or.inr rfl) (hf : R.X.fn x = true ∨ R.X.env.scope.names.lookup x = some .local := by first | exact .inl rfl | exact .inr rfl) :
    GV R (.Name x pos) s Γ C Qg := fun σ F H a v r QV k => wG_of (pg_name hN hi hx hf) (k _ _ F H C (a.set r i) (Ex.refl F) q)
/-- a, b = a pair -/
theorem gv_tup2 (i j : Nat) {x y : Str} {px py pos : Pos} {kk : Nat} {d1 d2 : PyData} {Qg : Gm → Cells → Prop} (q : Qg ((Γ.set i (some (.d d1))).set j (some (.d d2))) C) (hc : R.X.calm = true) (hN : R.X.N.Nodup) (hi : R.X.N[i]? = some x := by rfl) (hj : R.X.N[j]? = some y := by rfl)
    (hx : Loc R.X.env.scope x := by first | exact Or.inl rfl | exact Or.inr rfl) (hy : Loc R.X.env.scope y := by first | exact Or.inl rfl | exact Or.inr rfl) (hf : R.X.fn x = true ∨ R.X.env.scope.names.lookup x = some .local := by first | exact .inl rfl | exact .inr rfl) (hf2 : R.X.fn y = true ∨ R.X.env.scope.names.lookup y = some .local := by first | exact .inl rfl | exact .inr rfl)
    (hs1 : (assignEach [.Name x px, .Name y py] R.X.env).map (·.2) = assign (.Name x px) R.X.env :: (assignEach [.Name y py] R.X.env).map (·.2) := by rfl) (hs2 : (assignEach [.Name y py] R.X.env).map (·.2) = assign (.Name y py) R.X.env :: (assignEach [] R.X.env).map (·.2) := by rfl)
    (hn : (assignEach [.Name x px, .Name y py] R.X.env).length = 2 := by rfl) (hst : (assignEach [.Name x px, .Name y py] R.X.env).findIdx? (·.1) = none := by rfl) :
    GV R (.Tuple [.Name x px, .Name y py] kk pos) (.d (.tuple [d1, d2])) Γ C Qg := fun σ F H a v r QV k => by
  refine wG_of (pg_tup hc (pgs_cons (pg_name hN hi hx hf) (pgs_cons (pg_name hN hj hy hf2) pgs_nil hs2) hs1) hn hst) ?_
  obtain ⟨p, xs, rfl, st, rd⟩ := sat_tup r
  cases rd with
  | cons r1 t =>
    cases t with
    | cons r2 t =>
      cases t
      exact ⟨p, _, rfl, a.g.sub.sqT st, rfl, _, _, rfl, _, _, rfl, rfl, k _ _ F H C ((a.set (s := .d d1) r1 i).set (s := .d d2) r2 j) (Ex.refl F) q⟩
/-- target = e -/
theorem s_asg {tg e : Expr} {pos : Pos} {N : Nx} (h : EE R e Γ C fun s C' => GV R tg s Γ C' fun Γ' C2 => N.nx Γ' C2) (hs : swapsWithSole [tg] e pos.line R.X.env = pure false := by rfl) (hw : swappedStores [tg] e R.X.env = pure none := by rfl) (h1 : (assignEach [tg] R.X.env).map (·.2) = [assign tg R.X.env] := by rfl) :
    S1 R (.Assign [tg] e pos) Γ C N := fun σ F H a D ok => by
  refine wS_of (ps_asg pe_w pg_w hs hw h1) ?_
  exact h σ F H a _ fun v s F' H' C' a' r e q => q σ F' H' a' v r _ fun σ' Γ' F2 H2 C2 a2 e2 q2 => ok.nx σ' Γ' F2 H2 C2 a2 (e.trans e2) q2

/-! ### what is walked -/
/-- n turns that yield data while P stands -/
def Yl (K : PySem.W.Frag) (F1 : Hp) (J : It) (P : Cells → Prop) (n : Nat) (y : Nat → PyData) : Prop := ∀ (R : Rx) σ Γ F H C, R.X.K = K → At R σ Γ F H C → Ex F1 F → P C → (∀ i, i < n → J.go i H) ∧ (∀ i, n ≤ i → J.stop i H) ∧ ∀ i x H', i < n → J.yld i H x H' → ∃ F', At R σ Γ F' H' C ∧ Ex F F' ∧ Dp K F' x (y i)
def wI (X : Cx) (tg iter : Expr) : TI := fun σ H R => ∀ pins s, Inv X pins σ H s → wpAny (model X.prog X.w) X.A (eval iter X.env) (fun v s1 => wpAny (model X.prog X.w) X.A (pyIter v) (PIE X pins σ tg R) X.xe s1) X.xe s
theorem pi_w {X : Cx} {tg iter : Expr} : PI X tg iter (wI X tg iter) := ⟨fun pins s σ H R I h => h pins s I⟩
theorem wI_of {X : Cx} {tg iter : Expr} {t : TI} (p : PI X tg iter t) {σ : L2.St} {H : Hp} {Q : It → Hp → Prop} (h : t σ H Q) : wI X tg iter σ H Q := fun pins s I => p.run pins s σ H Q I h
def EI (R : Rx) (tg iter : Expr) (Γ : Gm) (C : Cells) (Q : (Cells → Prop) → Nat → (Nat → PyData) → Cells → Prop) : Prop := ∀ σ F H, At R σ Γ F H C → ∀ QV : It → Hp → Prop, (∀ J F' H' C' P n y, At R σ Γ F' H' C' → Ex F F' → Yl R.X.K F' J P n y → Q P n y C' → QV J H') → wI R.X tg iter σ H QV
def gd (ds : List PyData) (i : Nat) : PyData := (ds[i]?).getD .none
theorem ei_lst {tg iter : Expr} {Q : (Cells → Prop) → Nat → (Nat → PyData) → Cells → Prop} (h : EE R iter Γ C fun s C1 => ∃ ds, s = .d (.list ds) ∧ Q (fun _ => True) ds.length (gd ds) C1) : EI R tg iter Γ C Q := fun σ F H a QV k => by
  refine wI_of (pi_list pe_w) ?_
  refine h σ F H a _ fun v s F1 H1 C1 a1 r1 e1 h1 => ?_
  obtain ⟨ds, rfl, q⟩ := h1
  obtain ⟨p, xs, rfl, sq, rd⟩ := sat_lst r1
  refine ⟨p, rfl, ⟨xs, a1.g.sub.sqL sq⟩, k (Itl R.X.K p) F1 H1 C1 _ _ _ a1 e1 ?_ q⟩
  intro R2 σ2 Γ2 F2 H2 C2 hk a2 e2 _
  rw [← hk] at sq rd
  have sq2 := a2.g.sub.sqL (e2.sqL sq)
  have ln := dpAll_len rd
  rw [← hk]
  refine ⟨fun i hi => ⟨xs, xs[i]'(by omega), sq2, List.getElem?_eq_getElem _⟩, fun i hi => ⟨xs, sq2, by omega⟩, fun i x H' hi y => ?_⟩
  obtain ⟨rfl, y⟩ := y
  refine ⟨F2, a2, Ex.refl F2, ?_⟩
  obtain ⟨v, h1, h2⟩ := dpAll_get rd (i := i) (List.getElem?_eq_getElem hi)
  have h3 := y xs sq2
  rw [h1] at h3
  cases h3
  unfold gd
  rw [List.getElem?_eq_getElem hi]
  exact dp_ex e2 h2
theorem ei_tup {tg iter : Expr} {Q : (Cells → Prop) → Nat → (Nat → PyData) → Cells → Prop} (h : EE R iter Γ C fun s C1 => ∃ ds, s = .d (.tuple ds) ∧ Q (fun _ => True) ds.length (gd ds) C1) : EI R tg iter Γ C Q := fun σ F H a QV k => by
  refine wI_of (pi_tup pe_w) ?_
  refine h σ F H a _ fun v s F1 H1 C1 a1 r1 e1 h1 => ?_
  obtain ⟨ds, rfl, q⟩ := h1
  obtain ⟨p, xs, rfl, sq, rd⟩ := sat_tup r1
  refine ⟨p, rfl, ⟨xs, a1.g.sub.sqT sq⟩, k (Itt R.X.K p) F1 H1 C1 _ _ _ a1 e1 ?_ q⟩
  intro R2 σ2 Γ2 F2 H2 C2 hk a2 e2 _
  rw [← hk] at sq rd
  have sq2 := a2.g.sub.sqT (e2.sqT sq)
  have ln := dpAll_len rd
  rw [← hk]
  refine ⟨fun i hi => ⟨xs, xs[i]'(by omega), sq2, List.getElem?_eq_getElem _⟩, fun i hi => ⟨xs, sq2, by omega⟩, fun i x H' hi y => ?_⟩
  obtain ⟨rfl, y⟩ := y
  refine ⟨F2, a2, Ex.refl F2, ?_⟩
  obtain ⟨v, h1, h2⟩ := dpAll_get rd (i := i) (List.getElem?_eq_getElem hi)
  have h3 := y xs sq2
  rw [h1] at h3
  cases h3
  unfold gd
  rw [List.getElem?_eq_getElem hi]
  exact dp_ex e2 h2
/-- a list cell that the body leaves as it is -/
theorem ei_cel {tg iter : Expr} {Q : (Cells → Prop) → Nat → (Nat → PyData) → Cells → Prop} (h : EE R iter Γ C fun s C1 => ∃ p ds, s = .c p ∧ C1 p = some (.lst (ds.map SV.d)) ∧ Q (fun C => C p = some (.lst (ds.map SV.d))) ds.length (gd ds) C1) : EI R tg iter Γ C Q := fun σ F H a QV k => by
  refine wI_of (pi_list pe_w) ?_
  refine h σ F H a _ fun v s F1 H1 C1 a1 r1 e1 h1 => ?_
  obtain ⟨p, ds, rfl, hp, q⟩ := h1
  obtain rfl : v = .ref p := r1
  obtain ⟨vs0, hv0, _⟩ := a1.g.cel p _ hp
  refine ⟨p, rfl, ⟨vs0, .inl (.inl hv0)⟩, k (Itl R.X.K p) F1 H1 C1 _ _ _ a1 e1 ?_ q⟩
  intro R2 σ2 Γ2 F2 H2 C2 hk a2 e2 hp2
  obtain ⟨xs, hv, rs⟩ := a2.g.cel p _ hp2
  have rd := sall_dp rs
  have sq2 : SqL R2.X.K H2 p xs := .inl (.inl hv)
  have ln := dpAll_len rd
  rw [← hk]
  refine ⟨fun i hi => ⟨xs, xs[i]'(by omega), sq2, List.getElem?_eq_getElem _⟩, fun i hi => ⟨xs, sq2, by omega⟩, fun i x H' hi y => ?_⟩
  obtain ⟨rfl, y⟩ := y
  refine ⟨F2, a2, Ex.refl F2, ?_⟩
  obtain ⟨v, h1, h2⟩ := dpAll_get rd (i := i) (List.getElem?_eq_getElem hi)
  have h3 := y xs sq2
  rw [h1] at h3
  cases h3
  unfold gd
  rw [List.getElem?_eq_getElem hi]
  exact h2
theorem ei_rng1 {tg a : Expr} {p pos : Pos} {Q : (Cells → Prop) → Nat → (Nat → PyData) → Cells → Prop} (hm : R.X.mg "range" = none) (h : EE R a Γ C fun s C1 => ∃ n : Int, s = .int n ∧ -(2 ^ 62) ≤ n ∧ n < 2 ^ 62 ∧ Q (fun _ => True) n.toNat (fun i => .int i) C1) (hg : Gl R.X "range" := by rfl) (hs : starEach [a] R.X.env = [(false, eval a R.X.env)] := by rfl) (hs0 : starEach [a] R.X.env = (false, eval a R.X.env) :: starEach [] R.X.env := by rfl) : EI R tg (.Call (.Name "range" p) [a] [] pos) Γ C Q := fun σ F H at0 QV k => by
  refine wI_of (pi_range1 hg hm (pa_cons pe_w pa_nil hs0) hs) ?_
  refine h σ F H at0 _ fun v s F1 H1 C1 a1 r1 e1 h1 => ?_
  obtain ⟨n, rfl, l1, l2, q⟩ := h1
  refine ⟨n, by rw [sat_int r1], l1, l2, k (Itr 0 n.toNat) F1 H1 C1 _ _ _ a1 e1 ?_ q⟩
  intro R2 σ2 Γ2 F2 H2 C2 hk a2 e2 _
  refine ⟨fun i hi => hi, fun i hi => hi, fun i x H' hi y => ?_⟩
  obtain ⟨rfl, rfl⟩ := y
  exact ⟨F2, a2, Ex.refl F2, by rw [Int.zero_add]; exact Dp.int _⟩
theorem ei_rng2 {tg a b : Expr} {p pos : Pos} {Q : (Cells → Prop) → Nat → (Nat → PyData) → Cells → Prop} (hm : R.X.mg "range" = none) (h : EA R [a, b] Γ C fun ss C1 => ∃ m n : Int, ss = [.int m, .int n] ∧ (-(2 ^ 62) ≤ m ∧ m < 2 ^ 62 ∧ -(2 ^ 62) ≤ n ∧ n < 2 ^ 62) ∧ Q (fun _ => True) (n - m).toNat (fun i => .int (m + i)) C1) (hg : Gl R.X "range" := by rfl) (hs : starEach [a, b] R.X.env = [(false, eval a R.X.env), (false, eval b R.X.env)] := by rfl) (hs2 : starEach [b] R.X.env = [(false, eval b R.X.env)] := by rfl) : EI R tg (.Call (.Name "range" p) [a, b] [] pos) Γ C Q := fun σ F H at0 QV k => by
  refine wI_of (pi_range2 hg hm pa_w hs hs2) ?_
  refine h σ F H at0 _ fun vs ss F1 H1 C1 a1 r1 e1 h1 => ?_
  obtain ⟨m, n, rfl, l, q⟩ := h1
  obtain ⟨v, u, rfl, r2, r3⟩ := sall2 r1
  refine ⟨m, n, by rw [sat_int r2, sat_int r3], l, k (Itr m (n - m).toNat) F1 H1 C1 _ _ _ a1 e1 ?_ q⟩
  intro R2 σ2 Γ2 F2 H2 C2 hk a2 e2 _
  refine ⟨fun i hi => hi, fun i hi => hi, fun i x H' hi y => ?_⟩
  obtain ⟨rfl, rfl⟩ := y
  exact ⟨F2, a2, Ex.refl F2, Dp.int _⟩
theorem ei_str {tg iter : Expr} {Q : (Cells → Prop) → Nat → (Nat → PyData) → Cells → Prop} (h : EE R iter Γ C fun s C1 => ∃ z : Str, s = .str z ∧ Q (fun _ => True) z.cps.size (fun i => .str ⟨#[z.cps.getD i 0]⟩) C1) : EI R tg iter Γ C Q := fun σ F H at0 QV k => by
  refine wI_of (pi_str pe_w) ?_
  refine h σ F H at0 _ fun v s F1 H1 C1 a1 r1 e1 h1 => ?_
  obtain ⟨z, rfl, q⟩ := h1
  refine ⟨z, sat_str r1, k (Its z) F1 H1 C1 _ _ _ a1 e1 ?_ q⟩
  intro R2 σ2 Γ2 F2 H2 C2 hk a2 e2 _
  refine ⟨fun i hi => hi, fun i hi => hi, fun i x H' hi y => ?_⟩
  obtain ⟨rfl, c, hc, rfl⟩ := y
  refine ⟨F2, a2, Ex.refl F2, ?_⟩
  have e : z.cps.getD i 0 = c := by
    rw [Array.getD_eq_getD_getElem?, hc]
    rfl
  show Dp R.X.K F2 _ (.str ⟨#[z.cps.getD i 0]⟩)
  rw [e]
  exact Dp.str _
/-- for target in iter: body -/
theorem s_for {tg iter : Expr} {body : List Stmt} {pos : Pos} {N : Nx} (hp : PassesOwn (model R.X.prog R.X.w) R.X.A R.X.env R.X.xe) (hc : R.X.calm = true)
    (h : EI R tg iter Γ C fun P n y C1 => ∃ I : Nat → Gm → Cells → Prop, I 0 Γ C1 ∧ (∀ i Γ' C', I i Γ' C' → P C') ∧ (∀ i Γ' C', i < n → I i Γ' C' → GV R tg (.d (y i)) Γ' C' fun Γ2 C2 => SS R body Γ2 C2 { N with nx := I (i + 1), ct := I (i + 1), bk := N.nx }) ∧ ∀ Γ' C', I n Γ' C' → N.nx Γ' C')
    (hs : ∀ x, foldedSetIterable iter R.X.env x = pure x := by intro _; rfl) : S1 R (.For tg iter body [] pos) Γ C N := fun σ F H at0 D ok => by
  refine wS_of (ps_for hp hc pi_w pg_w pss_w hs) ?_
  refine h σ F H at0 _ fun J F1 H1 C1 P n y a1 e1 yl h1 => ?_
  obtain ⟨I, i0, hP, turn, done⟩ := h1
  refine ⟨fun i m σ' H' => m = n - i ∧ i ≤ n ∧ ∃ Γ' F' C', At R σ' Γ' F' H' C' ∧ Ex F1 F' ∧ I i Γ' C', ⟨n, by simp, Nat.zero_le _, Γ, F1, C1, a1, Ex.refl F1, i0⟩, ?_⟩
  rintro i m σ2 H2 ⟨rfl, hi, Γ2, F2, C2, a2, e2, i2⟩
  obtain ⟨go, stop, yld⟩ := yl R σ2 Γ2 F2 H2 C2 rfl a2 e2 (hP i Γ2 C2 i2)
  by_cases hlt : i < n
  · refine .inr ⟨go i hlt, fun σ' H' => ∃ Γ' F' C', At R σ' Γ' F' H' C' ∧ Ex F1 F' ∧ I (i + 1) Γ' C', fun σ' H' ⟨Γ', F', C', a', e', q⟩ => ⟨n - (i + 1), by omega, rfl, hlt, Γ', F', C', a', e', q⟩, fun x H' hy => ?_⟩
    obtain ⟨F3, a3, e3, dx⟩ := yld i x H' hlt hy
    refine turn i Γ2 C2 hlt i2 σ2 F3 H' a3 x dx _ fun σ4 Γ4 F4 H4 C4 a4 e4 q4 => ?_
    have e14 := ((e1.trans e2).trans e3).trans e4
    have e24 := (e2.trans e3).trans e4
    refine q4 σ4 F4 H4 a4 _ ⟨fun σ' Γ' F' H' C' a' e' q => ⟨Γ', F', C', a', e24.trans e', q⟩, fun σ' Γ' F' H' C' v s a' e' => ok.rt σ' Γ' F' H' C' v s a' (e14.trans e'), fun σ' Γ' F' H' C' a' e' => ok.nx σ' Γ' F' H' C' a' (e14.trans e'), fun σ' Γ' F' H' C' a' e' q => ⟨Γ', F', C', a', e24.trans e', q⟩⟩
  · have : i = n := by omega
    subst this
    exact .inl ⟨stop _ (Nat.le_refl _), ok.nx σ2 Γ2 F2 H2 C2 a2 (e1.trans e2) (done Γ2 C2 i2)⟩
end
end Dl

namespace Dl
open PySem PySem.Spec PyProof.Rows L2
section
variable {R : Rx} {Γ : Gm} {C C' : Cells} {σ : L2.St} {F H F' H' : Hp}

/-! ### a value that is read as data as it stands -/
def DV (C : Cells) (s : SV) (d : PyData) : Prop := s = .d d ∨ ∃ p ds, s = .c p ∧ C p = some (.lst (ds.map SV.d)) ∧ d = .list ds
theorem dv_d {d : PyData} : DV C (.d d) d := .inl rfl
theorem dv_c {p : Addr} {ds : List PyData} (h : C p = some (.lst (ds.map SV.d))) : DV C (.c p) (.list ds) := .inr ⟨p, ds, rfl, h, rfl⟩
theorem dv_dp {v : V} {s : SV} {d : PyData} (a : At R σ Γ F H C) (r : SAt R.X.K F v s) (h : DV C s d) : Dp R.X.K H v d := by
  rcases h with rfl | ⟨p, ds, rfl, hp, rfl⟩
  · exact dp_ex a.g.sub r
  · obtain ⟨vs, hv, rs⟩ := a.g.cel p _ hp
    obtain rfl : v = .ref p := r
    exact .lst (.inl (.inl hv)) (dpAll_ex a.g.sub (sall_dp rs))
section
variable {a b e : Expr} {pos p : Pos} {x y : PyData} {s t : SV}
theorem ov_eqV (hx : DV C s x) (hy : DV C t y) (h1 : SeqAt.shaped x = true) (h2 : SeqAt.shaped y = true) : OV R Γ C (rEqD R.X.K) s t (.bl (PyData.eqv x y)) := fun σ F H a v u r1 r2 QV k =>
  ⟨x, y, dv_dp a r1 hx, dv_dp a r2 hy, h1, h2, k _ F H a (Dp.bl _) (Ex.refl F)⟩
theorem ov_neV (hx : DV C s x) (hy : DV C t y) (h1 : SeqAt.shaped x = true) (h2 : SeqAt.shaped y = true) : OV R Γ C (rNeD R.X.K) s t (.bl (!PyData.eqv x y)) := fun σ F H a v u r1 r2 QV k =>
  ⟨x, y, dv_dp a r1 hx, dv_dp a r2 hy, h1, h2, k _ F H a (Dp.bl _) (Ex.refl F)⟩
theorem ev_eqV (hu : R.X.A.units + 64 < cLine) (ha : EV R a Γ C s) (hb : EV R b Γ C t) (hx : DV C s x) (hy : DV C t y) (h1 : SeqAt.shaped x = true) (h2 : SeqAt.shaped y = true) : EV R (.Compare a [.Eq] [b] pos) Γ C (.bl (PyData.eqv x y)) := ev_op2 (pe_cmpR (op_eqD hu) pe_w pe_w (nomark _)) ha hb (ov_eqV hx hy h1 h2)
theorem tv_eqV (hu : R.X.A.units + 64 < cLine) (ha : EV R a Γ C s) (hb : EV R b Γ C t) (hx : DV C s x) (hy : DV C t y) (h1 : SeqAt.shaped x = true) (h2 : SeqAt.shaped y = true) : TV R (.Compare a [.Eq] [b] pos) Γ C (PyData.eqv x y) := tv_op2 (pt_cmpR (op_eqD hu) pe_w pe_w (nomark _)) ha hb (ov_eqV hx hy h1 h2)
theorem tv_neV (hu : R.X.A.units + 64 < cLine) (ha : EV R a Γ C s) (hb : EV R b Γ C t) (hx : DV C s x) (hy : DV C t y) (h1 : SeqAt.shaped x = true) (h2 : SeqAt.shaped y = true) : TV R (.Compare a [.NotEq] [b] pos) Γ C (!PyData.eqv x y) := tv_op2 (pt_cmpR (op_neD hu) pe_w pe_w (nomark _)) ha hb (ov_neV hx hy h1 h2)
theorem ev_neV (hu : R.X.A.units + 64 < cLine) (ha : EV R a Γ C s) (hb : EV R b Γ C t) (hx : DV C s x) (hy : DV C t y) (h1 : SeqAt.shaped x = true) (h2 : SeqAt.shaped y = true) : EV R (.Compare a [.NotEq] [b] pos) Γ C (.bl (!PyData.eqv x y)) := ev_op2 (pe_cmpR (op_neD hu) pe_w pe_w (nomark _)) ha hb (ov_neV hx hy h1 h2)
/-- x in a list of data -/
theorem ov_inV {ds : List PyData} (hx : DV C s x) (hy : DV C t (.list ds)) (h1 : SeqAt.shaped x = true) (h2 : SeqAt.shaped (.list ds) = true) : OV R Γ C (rInD R.X.K) s t (.bl (ds.any fun z => PyData.eqv z x)) := fun σ F H a v u r1 r2 QV k =>
  ⟨x, ds, dv_dp a r1 hx, dv_dp a r2 hy, h1, h2, k _ F H a (Dp.bl _) (Ex.refl F)⟩
theorem ov_niV {ds : List PyData} (hx : DV C s x) (hy : DV C t (.list ds)) (h1 : SeqAt.shaped x = true) (h2 : SeqAt.shaped (.list ds) = true) : OV R Γ C (rNotInD R.X.K) s t (.bl (!ds.any fun z => PyData.eqv z x)) := fun σ F H a v u r1 r2 QV k =>
  ⟨x, ds, dv_dp a r1 hx, dv_dp a r2 hy, h1, h2, k _ F H a (Dp.bl _) (Ex.refl F)⟩
theorem tv_inV {ds : List PyData} (hu : R.X.A.units + 65 < cLine) (ha : EV R a Γ C s) (hb : EV R b Γ C t) (hx : DV C s x) (hy : DV C t (.list ds)) (h1 : SeqAt.shaped x = true) (h2 : SeqAt.shaped (.list ds) = true) (hm : behindInMarks .In b = false := by rfl) : TV R (.Compare a [.In] [b] pos) Γ C (ds.any fun z => PyData.eqv z x) := tv_op2 (pt_cmpR (op_inD hu) pe_w pe_w hm) ha hb (ov_inV hx hy h1 h2)
theorem tv_niV {ds : List PyData} (hu : R.X.A.units + 65 < cLine) (ha : EV R a Γ C s) (hb : EV R b Γ C t) (hx : DV C s x) (hy : DV C t (.list ds)) (h1 : SeqAt.shaped x = true) (h2 : SeqAt.shaped (.list ds) = true) (hm : behindInMarks .NotIn b = false := by rfl) : TV R (.Compare a [.NotIn] [b] pos) Γ C (!ds.any fun z => PyData.eqv z x) := tv_op2 (pt_cmpR (op_notInD hu) pe_w pe_w hm) ha hb (ov_niV hx hy h1 h2)
/-- l.index(x) -/
theorem ev_index {ds : List PyData} {j : Nat} {z : PyData} {apos : Pos} (hu : R.X.A.units + 65 < cLine) (ha : EV R a Γ C t) (he : EV R e Γ C s) (hx : DV C s x) (hy : DV C t (.list ds)) (h1 : SeqAt.shaped x = true) (h2 : SeqAt.shaped (.list ds) = true) (hz : ds[j]? = some z) (hj : PyData.eqv z x = true) (hn : ∀ (m : Nat) (z' : PyData), m < j → ds[m]? = some z' → PyData.eqv z' x = false)
    (hbase : attributeBase a "index" R.X.env (eval a R.X.env) = eval a R.X.env := by rfl)
    (hfew : ((backTo pos (starEach [e] R.X.env)).all (fun x => !x.1) && (backToKw pos (keywordEach [] R.X.env)).all (fun x => x.1.isSome) && decide ([e].length + ([] : List Keyword).length + (if ([] : List Keyword).isEmpty then 0 else 1) < 30)) = true := by rfl)
    (hline : (apos.endLine == pos.line) = true := by rfl) (hs : starEach [e] R.X.env = (false, eval e R.X.env) :: starEach [] R.X.env := by rfl) (hplain : (backTo pos (starEach [] R.X.env)).any (·.1) = false := by rfl) :
    EV R (.Call (.Attribute a "index" apos) [e] [] pos) Γ C (.int j) := fun Q q σ F H at0 QV k => by
  refine wE_of (pe_bm PySem.F.plainAttrs_list PySem.F.slot_list_index PySem.F.type_list_index (mt_indexD hu) pe_w (pa_cons pe_w pa_nil hs) hbase hfew hline hs hplain) ?_
  refine ha (fun s C' => s = t ∧ C' = C) ⟨rfl, rfl⟩ σ F H at0 _ fun v s' F1 H1 C1 a1 r1 e1 h1' => ?_
  obtain ⟨rfl, rfl⟩ := h1'
  have hd := dv_dp a1 r1 hy
  have hl : ∃ p xs, v = .ref p ∧ SqL R.X.K H1 p xs := by
    cases hd with
    | lst sq _ => exact ⟨_, _, rfl, sq⟩
  obtain ⟨p, xs, rfl, sq⟩ := hl
  refine ⟨.inl ⟨rfl, xs, sq⟩, ?_⟩
  refine he (fun s' C' => s' = s ∧ C' = C1) ⟨rfl, rfl⟩ σ F1 H1 a1 _ fun u s2 F2 H2 C2 a2 r2 e2 h2' => ?_
  obtain ⟨rfl, rfl⟩ := h2'
  exact ⟨p, u, x, ds, j, z, rfl, rfl, dv_dp a2 (r1.ex e2) hy, dv_dp a2 r2 hx, h2, h1, hz, hj, hn, k _ (.int j) F2 H2 C2 a2 (Dp.int _) (e1.trans e2) q⟩
/-- list(xs) -/
theorem call_list_dv {Q : SV → Cells → Prop} {QV : VK} {v : V} {ds : List PyData} (a : At R σ Γ F H C) (hv : Dp R.X.K H v (.list ds)) : ∃ p ys, v = .ref p ∧ (SqL R.X.K H p ys ∨ SqT R.X.K H p ys) ∧ DpAll R.X.K H ys ds := by
  cases hv with
  | lst sq r => exact ⟨_, _, rfl, .inl sq, r⟩
end

/-! ### isinstance -/
def tyN : PyData → String
  | .none => "NoneType"
  | .bool _ => "bool"
  | .int _ => "int"
  | .str _ => "str"
  | .list _ => "list"
  | .tuple _ => "tuple"
  | .dict _ => "dict"
theorem tyx_of {K : PySem.W.Frag} {v : V} {d : PyData} (h : Dp K H v d) : TyX K H v (.type (tyN d)) := by
  cases h with
  | non => exact .base .non
  | bl b => exact .base (.bl b)
  | int i => exact .base (.int i)
  | str x => exact .base (.str x)
  | lst sq _ =>
    rcases sq with (h | ⟨o, h⟩) | ⟨o, its, n, hk, hc, _⟩
    · exact .base (.lst h)
    · exact .base (.frz h)
    · exact .kList hk hc
  | tup sq _ =>
    rcases sq with (h | ⟨o, h⟩) | ⟨o, its, n, hk, hc, _⟩
    · exact .base (.tup h)
    · exact .fTuple h
    · exact .kTuple hk hc
theorem ev_isTy {n : String} {x : Str} {a : Expr} {s : SV} {d : PyData} {b : Bool} {p p2 pos : Pos} (hm : R.X.mg "isinstance" = none) (hn : R.X.mg x = none) (hbn : bootBuiltins x = some (.type n)) (ha : EV R a Γ C s) (hd : DV C s d) (hk : kitB (tyN d) n = some b)
    (hg : Gl R.X "isinstance" := by rfl) (hg2 : Gl R.X x := by rfl) (hn2 : x ≠ "__name__" := by decide) (hd2 : (x == ("__debug__" : Str)) = false := by decide)
    (hs : starEach [a, .Name x p2] R.X.env = (false, eval a R.X.env) :: starEach [.Name x p2] R.X.env := by rfl) (hs2 : starEach [.Name x p2] R.X.env = (false, eval (.Name x p2) R.X.env) :: starEach [] R.X.env := by rfl) (hpl : (backTo pos (starEach [.Name x p2] R.X.env)).any (·.1) = false := by rfl) :
    EV R (.Call (.Name "isinstance" p) [a, .Name x p2] [] pos) Γ C (.bl b) := fun Q q σ F H at0 QV k => by
  refine wE_of (pe_callB call_isi hg hm (by decide +kernel) (pa_cons pe_w (pa_cons (pe_bltn (v := .ty n) hg2 hn hbn rfl hn2 hd2) pa_nil hs2) hs) (by decide) (by decide) hs hpl) ?_
  refine ha (fun s' C' => s' = s ∧ C' = C) ⟨rfl, rfl⟩ σ F H at0 _ fun v s' F1 H1 C1 a1 r1 e1 h1 => ?_
  obtain ⟨rfl, rfl⟩ := h1
  exact ⟨v, .ty n, .type (tyN d), .type n, b, rfl, .ty n, tyx_of (dv_dp a1 r1 hd), kit_ty hk, k _ (.bl b) F1 H1 C1 a1 (Dp.bl _) e1 q⟩

/-! ### lists that change -/
theorem ee_append {o e : Expr} {apos pos : Pos} {Q : SV → Cells → Prop} (h : EE R o Γ C fun so C1 => ∃ p ss0, so = .c p ∧ C1 p = some (.lst ss0) ∧ EE R e Γ C1 fun s C2 => ∃ ss, C2 p = some (.lst ss) ∧ ss.length < sizeLine ∧ Q .non (cupd C2 p (.lst (ss ++ [s]))))
    (hbase : attributeBase o "append" R.X.env (eval o R.X.env) = eval o R.X.env := by rfl)
    (hfew : ((backTo pos (starEach [e] R.X.env)).all (fun x => !x.1) && (backToKw pos (keywordEach [] R.X.env)).all (fun x => x.1.isSome) && decide ([e].length + ([] : List Keyword).length + (if ([] : List Keyword).isEmpty then 0 else 1) < 30)) = true := by rfl)
    (hline : (apos.endLine == pos.line) = true := by rfl) (hs : starEach [e] R.X.env = (false, eval e R.X.env) :: starEach [] R.X.env := by rfl) (hplain : (backTo pos (starEach [] R.X.env)).any (·.1) = false := by rfl) :
    EE R (.Call (.Attribute o "append" apos) [e] [] pos) Γ C Q := fun σ F H at0 QV k => by
  refine wE_of (pe_bm PySem.F.plainAttrs_list PySem.F.slot_list_append PySem.F.type_list_append mt_append pe_w (pa_cons pe_w pa_nil hs) hbase hfew hline hs hplain) ?_
  refine h σ F H at0 _ fun v so F1 H1 C1 a1 r1 e1 h1 => ?_
  obtain ⟨p, ss0, rfl, hp, h1⟩ := h1
  obtain rfl : v = .ref p := r1
  obtain ⟨vs0, hv0, _⟩ := a1.g.cel p _ hp
  refine ⟨.inl ⟨rfl, vs0, .inl (.inl hv0)⟩, ?_⟩
  refine h1 σ F1 H1 a1 _ fun u s F2 H2 C2 a2 r2 e2 h2 => ?_
  obtain ⟨ss, hp2, hl, q⟩ := h2
  obtain ⟨vs, hv, rs⟩ := a2.g.cel p _ hp2
  refine ⟨p, vs, u, rfl, rfl, hv, by rw [Paired.length rs]; exact hl, ?_⟩
  exact k .non .non F2 _ _ (a2.put (c := .lst (ss ++ [s])) hp2 ⟨vs ++ [u], upd_same, sall_append rs (.cons r2 .nil)⟩) .non (e1.trans e2) q
theorem ixN_len {n m : Nat} {i : Int} (h : n = m) : ixN n i = ixN m i := by rw [h]
theorem gv_sub {o i : Expr} {pos : Pos} {s : SV} {Qg : Gm → Cells → Prop} (h : EE R o Γ C fun so C1 => EE R i Γ C1 fun si C2 => ∃ p ss k j, so = .c p ∧ si = .int k ∧ C2 p = some (.lst ss) ∧ ixN ss.length k = some j ∧ Qg Γ (cupd C2 p (.lst (ss.set j s))))
    (ha : ∀ v, assign (.Subscript o i pos) R.X.env v = (do
      let ov ← holding [v] (eval o R.X.env)
      let iv ← holding [v, ov] (eval i R.X.env)
      standAt pos
      holding [v, ov, iv] (setItem ov iv v)
      release [v, ov, iv] []) := by intro _; rfl) : GV R (.Subscript o i pos) s Γ C Qg := fun σ F H at0 v r QV k => by
  refine wG_of (pg_sub pe_w pe_w set_list ha) ?_
  refine h σ F H at0 _ fun vo so F1 H1 C1 a1 r1 e1 h1 => ?_
  refine h1 σ F1 H1 a1 _ fun vi si F2 H2 C2 a2 r2 e2 h2 => ?_
  obtain ⟨p, ss, kk, j, rfl, rfl, hp, hj, q⟩ := h2
  obtain rfl : vo = .ref p := r1
  rw [sat_int r2]
  obtain ⟨vs, hv, rs⟩ := a2.g.cel p _ hp
  refine ⟨p, vs, kk, j, rfl, rfl, hv, by rw [Paired.length rs]; exact hj, ?_⟩
  exact k σ Γ F2 _ _ (a2.put (c := .lst (ss.set j s)) hp ⟨vs.set j v, upd_same, sall_set rs (r.ex (e1.trans e2)) j⟩) (e1.trans e2) q
/-- list(x): a new cell | data -/
theorem ee_listC {e : Expr} {p pos : Pos} {Q : SV → Cells → Prop} (hm : R.X.mg "list" = none) (h : EE R e Γ C fun s C1 => ∃ ds, DV C1 s (.list ds) ∧ ∀ q, C1 q = none → Q (.c q) (cupd C1 q (.lst (ds.map SV.d)))) (hg : Gl R.X "list" := by rfl) (hs : starEach [e] R.X.env = (false, eval e R.X.env) :: starEach [] R.X.env := by rfl) (hpl : (backTo pos (starEach [] R.X.env)).any (·.1) = false := by rfl) : EE R (.Call (.Name "list" p) [e] [] pos) Γ C Q := fun σ F H at0 QV k => by
  refine wE_of (pe_callTy call_list_of hg hm (by decide +kernel) (pa_cons pe_w pa_nil hs) (by decide) (by decide) hs hpl) ?_
  refine h σ F H at0 _ fun v s F1 H1 C1 a1 r1 e1 h1 => ?_
  obtain ⟨ds, hd, q⟩ := h1
  rcases hd with rfl | ⟨c, ds', rfl, hc, hl⟩
  · obtain ⟨a, xs, rfl, sq, rd⟩ := sat_lst r1
    refine ⟨a, xs, rfl, .inl (a1.g.sub.sqL sq), fun l hl => ?_⟩
    exact k _ (.c l) F1 _ _ (a1.cell (c := .lst (ds.map SV.d)) hl ⟨xs, upd_same, dp_sall rd⟩) rfl e1 (q l (a1.g.sl hl).2)
  · cases hl
    obtain ⟨vs, hv, rs⟩ := a1.g.cel c _ hc
    obtain rfl : v = .ref c := r1
    refine ⟨c, vs, rfl, .inl (.inl (.inl hv)), fun l hl => ?_⟩
    exact k _ (.c l) F1 _ _ (a1.cell (c := .lst (ds.map SV.d)) hl ⟨vs, upd_same, rs⟩) rfl e1 (q l (a1.g.sl hl).2)
theorem ee_listD {e : Expr} {p pos : Pos} {Q : SV → Cells → Prop} (hm : R.X.mg "list" = none) (h : EE R e Γ C fun s C1 => ∃ ds, DV C1 s (.list ds) ∧ Q (.d (.list ds)) C1) (hg : Gl R.X "list" := by rfl) (hs : starEach [e] R.X.env = (false, eval e R.X.env) :: starEach [] R.X.env := by rfl) (hpl : (backTo pos (starEach [] R.X.env)).any (·.1) = false := by rfl) : EE R (.Call (.Name "list" p) [e] [] pos) Γ C Q := fun σ F H at0 QV k => by
  refine wE_of (pe_callTy call_list_of hg hm (by decide +kernel) (pa_cons pe_w pa_nil hs) (by decide) (by decide) hs hpl) ?_
  refine h σ F H at0 _ fun v s F1 H1 C1 a1 r1 e1 h1 => ?_
  obtain ⟨ds, hd, q⟩ := h1
  rcases hd with rfl | ⟨c, ds', rfl, hc, hl⟩
  · obtain ⟨a, xs, rfl, sq, rd⟩ := sat_lst r1
    refine ⟨a, xs, rfl, .inl (a1.g.sub.sqL sq), fun l hl => ?_⟩
    obtain ⟨a2, e2⟩ := a1.lay (o := .lst xs) hl
    exact k _ (.d (.list ds)) _ _ C1 a2 (.lst (.inl (.inl upd_same)) (dpAll_ex e2 rd)) (e1.trans e2) q
  · cases hl
    obtain ⟨vs, hv, rs⟩ := a1.g.cel c _ hc
    obtain rfl : v = .ref c := r1
    refine ⟨c, vs, rfl, .inl (.inl (.inl hv)), fun l hl => ?_⟩
    obtain ⟨a2, e2⟩ := a1.lay (o := .lst vs) hl
    exact k _ (.d (.list ds)) _ _ C1 a2 (.lst (.inl (.inl upd_same)) (dpAll_ex e2 (sall_dp rs))) (e1.trans e2) q
theorem ev_listD {e : Expr} {p pos : Pos} {ds : List PyData} {s : SV} (hm : R.X.mg "list" = none) (h : EV R e Γ C s) (hd : DV C s (.list ds)) (hg : Gl R.X "list" := by rfl) (hs : starEach [e] R.X.env = (false, eval e R.X.env) :: starEach [] R.X.env := by rfl) (hpl : (backTo pos (starEach [] R.X.env)).any (·.1) = false := by rfl) : EV R (.Call (.Name "list" p) [e] [] pos) Γ C (.d (.list ds)) := fun Q q => ee_listD hm (h _ ⟨ds, hd, q⟩) hg hs hpl

/-! ### instances -/
theorem fall_lookup {K : PySem.W.Frag} {f : Str} {s : SV} : ∀ {vs : List (Str × V)} {ss : List (Str × SV)}, FAll K F vs ss → ss.lookup f = some s → ∃ v, vs.lookup f = some v ∧ SAt K F v s
  | _, _, .nil, e => by cases e
  | (k, v) :: _, (k2, s2) :: _, .cons r t, e => by
    obtain ⟨h1, h2⟩ := r
    simp only at h1
    subst h1
    simp only [List.lookup] at e ⊢
    cases q : (f == k) with
    | true =>
      rw [q] at e
      cases e
      exact ⟨v, rfl, h2⟩
    | false =>
      rw [q] at e
      exact fall_lookup t e
theorem fall_none {K : PySem.W.Frag} {f : Str} : ∀ {vs : List (Str × V)} {ss : List (Str × SV)}, FAll K F vs ss → ss.lookup f = none → vs.lookup f = none
  | _, _, .nil, e => rfl
  | (k, v) :: _, (k2, s2) :: _, .cons r t, e => by
    obtain ⟨h1, h2⟩ := r
    simp only at h1
    subst h1
    simp only [List.lookup] at e ⊢
    cases q : (f == k) with
    | true => rw [q] at e; cases e
    | false =>
      rw [q] at e
      exact fall_none t e
def putS (f : Str) (v : SV) : List (Str × SV) → List (Str × SV)
  | [] => [(f, v)]
  | (g, x) :: r => if g = f then (g, v) :: r else (g, x) :: putS f v r
theorem fall_put {K : PySem.W.Frag} {f : Str} {v : V} {s : SV} (r : SAt K F v s) : ∀ {vs : List (Str × V)} {ss : List (Str × SV)}, FAll K F vs ss → FAll K F (putF f v vs) (putS f s ss)
  | _, _, .nil => .cons ⟨rfl, r⟩ .nil
  | (k, x) :: _, (k2, s2) :: _, .cons q t => by
    obtain ⟨h1, h2⟩ := q
    simp only at h1
    subst h1
    unfold putF putS
    by_cases e : k = f
    · rw [if_pos e, if_pos e]
      exact .cons ⟨rfl, r⟩ t
    · rw [if_neg e, if_neg e]
      exact .cons ⟨rfl, h2⟩ (fall_put r t)
theorem ee_fld {o : Expr} {f : Str} {pos : Pos} {Q : SV → Cells → Prop} (h : EE R o Γ C fun so C1 => ∃ p Cl fs s, so = .c p ∧ C1 p = some (.ins Cl fs) ∧ Cls R.X.K Cl ∧ NoAttr R.X.K Cl f ∧ fs.lookup f = some s ∧ Q s C1) (hb : attributeBase o f R.X.env (eval o R.X.env) = eval o R.X.env := by rfl) : EE R (.Attribute o f pos) Γ C Q := fun σ F H at0 QV k => by
  refine wE_of (pe_fld pe_w hb) ?_
  refine h σ F H at0 _ fun v so F1 H1 C1 a1 r1 e1 h1 => ?_
  obtain ⟨p, Cl, fs, s, rfl, hp, cl, na, hl, q⟩ := h1
  obtain rfl : v = .ref p := r1
  obtain ⟨dx, vs, hv, rs⟩ := a1.g.cel p _ hp
  obtain ⟨u, hu, ru⟩ := fall_lookup rs hl
  exact ⟨p, Cl, dx, vs, u, rfl, hv, cl, na, hu, k u s F1 H1 C1 a1 ru e1 q⟩
theorem ev_fld {o : Expr} {f : Str} {pos : Pos} {p Cl : Addr} {fs : List (Str × SV)} {s : SV} (h : EV R o Γ C (.c p)) (hp : C p = some (.ins Cl fs)) (cl : Cls R.X.K Cl) (na : NoAttr R.X.K Cl f) (hl : fs.lookup f = some s) (hb : attributeBase o f R.X.env (eval o R.X.env) = eval o R.X.env := by rfl) : EV R (.Attribute o f pos) Γ C s := fun Q q => ee_fld (h _ ⟨p, Cl, fs, s, rfl, hp, cl, na, hl, q⟩) hb
theorem s_fld {o e : Expr} {f : Str} {pos pos' : Pos} {N : Nx} (h : EE R e Γ C fun s C1 => EE R o Γ C1 fun so C2 => ∃ p Cl fs, so = .c p ∧ C2 p = some (.ins Cl fs) ∧ Cls R.X.K Cl ∧ NoAttr R.X.K Cl f ∧ fs.length < 1000 ∧ N.nx Γ (cupd C2 p (.ins Cl (putS f s fs)))) (hs : swapsWith e (some (.Attribute o f pos')) pos.line R.X.env = pure false := by rfl) : S1 R (.Assign [.Attribute o f pos'] e pos) Γ C N := fun σ F H at0 D ok => by
  refine wS_of (ps_fld pe_w pe_w hs) ?_
  refine h σ F H at0 _ fun v s F1 H1 C1 a1 r1 e1 h1 => ?_
  refine h1 σ F1 H1 a1 _ fun u so F2 H2 C2 a2 r2 e2 h2 => ?_
  obtain ⟨p, Cl, fs, rfl, hp, cl, na, hl, q⟩ := h2
  obtain rfl : u = .ref p := r2
  obtain ⟨dx, vs, hv, rs⟩ := a2.g.cel p _ hp
  refine ⟨p, Cl, dx, vs, rfl, hv, cl, na, by rw [Paired.length rs]; exact hl, ?_⟩
  exact ok.nx σ Γ F2 _ _ (a2.put (c := .ins Cl (putS f s fs)) hp ⟨dx, putF f v vs, upd_same, fall_put (r1.ex e2) rs⟩) (e1.trans e2) q

/-! ### methods -/
def tMethS (Cl : Addr) (m : Str) (sp : Sp) (E : L2.St → XK) (ta : TE) (t : TA) : TE := fun σ H Q => ta σ H fun x H1 => ∃ a dx fs, x = .ref a ∧ H1 a = some (.ins Cl dx fs) ∧ fs.lookup m = none ∧ t σ H1 fun vs H2 => sp (x :: vs) H2 Q (E σ)
theorem pe_mS {X : Cx} {CX : CXT} {k : Nat} {Cl f : Addr} {fd : FuncData} {ps : List Str} {sp : Sp} {E : L2.St → XK} {o e : Expr} {es : List Expr} {m : Str} {apos pos : Pos} {ta : TE} {t : TA} {pl : Sem Bool} (he : PE X o ta) (c : Cls X.K Cl) (hm : Meth X.K Cl m f) (F : FnOk X.prog X.w X.K X.mg X.base CX k f fd ps sp) (hr : Room k X.A) (hb : Binds X.K fd ps []) (hx : ∀ σ, PassesAt CX X σ (E σ)) (ha : PA X (e :: es) t)
    (hst : starEach (e :: es) X.env = (false, eval e X.env) :: starEach es X.env := by rfl) (hpl : (backTo pos (starEach es X.env)).any (·.1) = false := by rfl)
    (ht : eval (.Call (.Attribute o m apos) (e :: es) [] pos) X.env = (do
      let ov ← eval o X.env
      standAt apos.atName
      let (f, first) ← holding [ov] (getMethod ov m pl)
      callWith pos f first (backTo pos (starEach (e :: es) X.env)) (backToKw pos (keywordEach [] X.env))) := by rfl) :
    PE X (.Call (.Attribute o m apos) (e :: es) [] pos) (tMethS Cl m sp E ta t) := by
  refine ⟨fun pins s σ H Q I h => ?_⟩
  refine PySem.W.methodCall_KW (pl := pl) (thn (he.run pins s σ H _ I h) fun u s1 ⟨x, H1, I1, rx, a, dx, fs, ex, ea, l, q⟩ => ?_) ht
  subst ex
  obtain rfl : u = Value.ref a := rx
  refine getmeth_ok I1 ea c hm l ?_
  refine PySem.W.callWith_K (first := [.ref a]) (h₀ := X.base) I.ok.mod.kin hm.kp (thn (ha.run pos pins s1 σ H1 _ I1 q) fun us s2 ⟨vs, H2, I2, r, q2⟩ => ⟨I2.kIn, ?_⟩) hst hpl
  exact run_fnS (us := .ref a :: us) (vs := .ref a :: vs) F hr hb (hx σ) I2 (.cons rfl r) q2
theorem pe_mS0 {X : Cx} {CX : CXT} {k : Nat} {Cl f : Addr} {fd : FuncData} {ps : List Str} {sp : Sp} {E : L2.St → XK} {o : Expr} {m : Str} {apos pos : Pos} {ta : TE} {pl : Sem Bool} (he : PE X o ta) (c : Cls X.K Cl) (hm : Meth X.K Cl m f) (F : FnOk X.prog X.w X.K X.mg X.base CX k f fd ps sp) (hr : Room k X.A) (hb : Binds X.K fd ps []) (hx : ∀ σ, PassesAt CX X σ (E σ))
    (ht : eval (.Call (.Attribute o m apos) [] [] pos) X.env = (do
      let ov ← eval o X.env
      standAt apos.atName
      let (f, first) ← holding [ov] (getMethod ov m pl)
      callWith pos f first (backTo pos (starEach [] X.env)) (backToKw pos (keywordEach [] X.env))) := by rfl) :
    PE X (.Call (.Attribute o m apos) [] [] pos) (tMethS Cl m sp E ta tNil) := by
  refine ⟨fun pins s σ H Q I h => ?_⟩
  refine PySem.W.methodCall_KW (pl := pl) (thn (he.run pins s σ H _ I h) fun u s1 ⟨x, H1, I1, rx, a, dx, fs, ex, ea, l, q⟩ => ?_) ht
  subst ex
  obtain rfl : u = Value.ref a := rx
  refine getmeth_ok I1 ea c hm l ?_
  exact PySem.W.callWith_K0 (first := [.ref a]) I1.kIn hm.kp (run_fnS (us := [.ref a]) (vs := [.ref a]) F hr hb (hx σ) I1 (.cons rfl .nil) q)
/-- a method of the class at Cl -/
def Mc (P : Program) (w : World) (K : PySem.W.Frag) (mg : Str → Option Value) (base : Heap) (Cl : Addr) (m : Str) (k : Nat) (ps : List Str) (sp : DSp) : Prop :=
  ∃ f fd, Cls K Cl ∧ Meth K Cl m f ∧ Binds K fd ps [] ∧ FnOk P w K mg base (L2N.CX P w) k f fd ps (toSp K sp)
/-- a method of the text -/
def HasM (K : PySem.W.Frag) (Cl : Addr) (m qual : Str) (st : Stmt) : Prop := ∃ f fd, Cls K Cl ∧ Meth K Cl m f ∧ FunD K m qual (defArgs st) (defBody st) (defScope st) [] [] f fd
theorem mc_of {P : Program} {w : World} {K : PySem.W.Frag} {mg : Str → Option Value} {base : Heap} {Cl : Addr} {m qual : Str} {st : Stmt} {N ps : List Str} {k : Nat} {sp : DSp} (h : HasM K Cl m qual st) (S : FnScope N ps (defScope st))
    (hbd : ∀ (kV doc pm : Value) (an : Option Addr) (cdv ct : Value) (us : List Value), us.length = ps.length → bindArgs (PySem.W.fnOf m qual (defArgs st) (defBody st) (defScope st) .none kV doc pm an cdv ct) ⟨us, []⟩ = pure (ps.zip us))
    (len : ∀ ss C Q E, sp ss C Q E → ss.length = ps.length)
    (hb : ∀ (b : Bd) (ss : List SV) (Q : SV → Cells → Prop), Tk (Rb P w K mg base N qual (defScope st) b) → Room k (Rb P w K mg base N qual (defScope st) b).X.A → sp ss b.C Q b.er → SS (Rb P w K mg base N qual (defScope st) b) (defBody st) (startG N ss) b.C { nx := fun _ C' => Q .non C', rt := Q }) :
    Mc P w K mg base Cl m (k + 1) ps sp := by
  obtain ⟨f, fd, cl, hm, Fd⟩ := h
  exact ⟨f, fd, cl, hm, Fd.bindsN hbd, fn_ok Fd S len hb⟩
theorem Mc.mono {P : Program} {w : World} {K : PySem.W.Frag} {mg : Str → Option Value} {base : Heap} {Cl : Addr} {m : Str} {j k : Nat} {ps : List Str} {sp : DSp} (h : Mc P w K mg base Cl m j ps sp) (l : j ≤ k) : Mc P w K mg base Cl m k ps sp :=
  let ⟨f, fd, a, b, c, d⟩ := h
  ⟨f, fd, a, b, c, d.mono l⟩
theorem ee_meth {Cl : Addr} {m : Str} {k : Nat} {ps : List Str} {sp : DSp} {o e : Expr} {es : List Expr} {apos pos : Pos} {Q : SV → Cells → Prop} {pl : Sem Bool} (G : Mc R.X.prog R.X.w R.X.K R.X.mg R.X.base Cl m k ps sp) (hr : Room k R.X.A) (tk : Tk R)
    (h : EE R o Γ C fun so C1 => ∃ p fs, so = .c p ∧ C1 p = some (.ins Cl fs) ∧ fs.lookup m = none ∧ EA R (e :: es) Γ C1 fun ss C2 => sp (so :: ss) C2 Q (R.er Γ))
    (hst : starEach (e :: es) R.X.env = (false, eval e R.X.env) :: starEach es R.X.env := by rfl) (hpl : (backTo pos (starEach es R.X.env)).any (·.1) = false := by rfl)
    (ht : eval (.Call (.Attribute o m apos) (e :: es) [] pos) R.X.env = (do
      let ov ← eval o R.X.env
      standAt apos.atName
      let (f, first) ← holding [ov] (getMethod ov m pl)
      callWith pos f first (backTo pos (starEach (e :: es) R.X.env)) (backToKw pos (keywordEach [] R.X.env))) := by rfl) :
    EE R (.Call (.Attribute o m apos) (e :: es) [] pos) Γ C Q := fun σ F H a QV kk => by
  obtain ⟨f, fd, cl, hm, hb, G⟩ := G
  obtain ⟨W, tk, hW⟩ := tk
  refine wE_of (pe_mS (E := WE W) pe_w cl hm G hr hb (L2N.passAt tk) pa_w hst hpl ht) ?_
  refine h σ F H a _ fun v so F1 H1 C1 a1 r1 e1 h1 => ?_
  obtain ⟨p, fs, rfl, hp, hl, h1⟩ := h1
  obtain rfl : v = .ref p := r1
  obtain ⟨dx, vs, hv, rs⟩ := a1.g.cel p _ hp
  refine ⟨p, dx, vs, rfl, hv, fall_none rs hl, ?_⟩
  refine h1 σ F1 H1 a1 _ fun us ss F2 H2 C2 a2 r2 e2 h2 => ?_
  exact sp_go a2 rfl hW (.cons (show SAt R.X.K F2 (.ref p) (.c p) from rfl) r2) (fun v s F' H' C' a' r e q => kk v s F' H' C' a' r ((e1.trans e2).trans e) q) h2
theorem ee_meth0 {Cl : Addr} {m : Str} {k : Nat} {ps : List Str} {sp : DSp} {o : Expr} {apos pos : Pos} {Q : SV → Cells → Prop} {pl : Sem Bool} (G : Mc R.X.prog R.X.w R.X.K R.X.mg R.X.base Cl m k ps sp) (hr : Room k R.X.A) (tk : Tk R)
    (h : EE R o Γ C fun so C1 => ∃ p fs, so = .c p ∧ C1 p = some (.ins Cl fs) ∧ fs.lookup m = none ∧ sp [so] C1 Q (R.er Γ))
    (ht : eval (.Call (.Attribute o m apos) [] [] pos) R.X.env = (do
      let ov ← eval o R.X.env
      standAt apos.atName
      let (f, first) ← holding [ov] (getMethod ov m pl)
      callWith pos f first (backTo pos (starEach [] R.X.env)) (backToKw pos (keywordEach [] R.X.env))) := by rfl) :
    EE R (.Call (.Attribute o m apos) [] [] pos) Γ C Q := fun σ F H a QV kk => by
  obtain ⟨f, fd, cl, hm, hb, G⟩ := G
  obtain ⟨W, tk, hW⟩ := tk
  refine wE_of (pe_mS0 (E := WE W) pe_w cl hm G hr hb (L2N.passAt tk) ht) ?_
  refine h σ F H a _ fun v so F1 H1 C1 a1 r1 e1 h1 => ?_
  obtain ⟨p, fs, rfl, hp, hl, h1⟩ := h1
  obtain rfl : v = .ref p := r1
  obtain ⟨dx, vs, hv, rs⟩ := a1.g.cel p _ hp
  refine ⟨p, dx, vs, rfl, hv, fall_none rs hl, ?_⟩
  exact sp_go a1 rfl hW (.cons (show SAt R.X.K F1 (.ref p) (.c p) from rfl) .nil) (fun v s F' H' C' a' r e q => kk v s F' H' C' a' r (e1.trans e) q) h1
/-- a class that is made -/
def Kc (P : Program) (w : World) (K : PySem.W.Frag) (mg : Str → Option Value) (base : Heap) (x : Str) (Cl : Addr) (k : Nat) (ps : List Str) (sp : DSp) : Prop :=
  ∃ f fd, mg x = some (.ref Cl) ∧ Mk K Cl f ∧ Binds K fd ps [] ∧ FnOk P w K mg base (L2N.CX P w) k f fd ps (toSp K sp)
def HasK (K : PySem.W.Frag) (mg : Str → Option Value) (x : Str) (Cl : Addr) (qual : Str) (st : Stmt) : Prop := ∃ f fd, mg x = some (.ref Cl) ∧ Mk K Cl f ∧ FunD K "__init__" qual (defArgs st) (defBody st) (defScope st) [] [] f fd
theorem kc_of {P : Program} {w : World} {K : PySem.W.Frag} {mg : Str → Option Value} {base : Heap} {x : Str} {Cl : Addr} {qual : Str} {st : Stmt} {N ps : List Str} {k : Nat} {sp : DSp} (h : HasK K mg x Cl qual st) (S : FnScope N ps (defScope st))
    (hbd : ∀ (kV doc pm : Value) (an : Option Addr) (cdv ct : Value) (us : List Value), us.length = ps.length → bindArgs (PySem.W.fnOf "__init__" qual (defArgs st) (defBody st) (defScope st) .none kV doc pm an cdv ct) ⟨us, []⟩ = pure (ps.zip us))
    (len : ∀ ss C Q E, sp ss C Q E → ss.length = ps.length)
    (hb : ∀ (b : Bd) (ss : List SV) (Q : SV → Cells → Prop), Tk (Rb P w K mg base N qual (defScope st) b) → Room k (Rb P w K mg base N qual (defScope st) b).X.A → sp ss b.C Q b.er → SS (Rb P w K mg base N qual (defScope st) b) (defBody st) (startG N ss) b.C { nx := fun _ C' => Q .non C', rt := Q }) :
    Kc P w K mg base x Cl (k + 1) ps sp := by
  obtain ⟨f, fd, hm, M, Fd⟩ := h
  exact ⟨f, fd, hm, M, Fd.bindsN hbd, fn_ok Fd S len hb⟩
theorem Kc.mono {P : Program} {w : World} {K : PySem.W.Frag} {mg : Str → Option Value} {base : Heap} {x : Str} {Cl : Addr} {j k : Nat} {ps : List Str} {sp : DSp} (h : Kc P w K mg base x Cl j ps sp) (l : j ≤ k) : Kc P w K mg base x Cl k ps sp :=
  let ⟨f, fd, a, b, c, d⟩ := h
  ⟨f, fd, a, b, c, d.mono l⟩
theorem made_at (a : At R σ Γ F H C) {x dx Cl : Addr} (hx : H x = none) (hd : H dx = none) (hne : dx ≠ x) : At R σ Γ F (upd (upd H dx (.own x)) x (.ins Cl dx [])) (cupd C x (.ins Cl [])) ∧ C x = none := by
  have e1 : Ex H (upd H dx (.own x)) := fun b u e => by rw [upd_ne (ne_of_none e hd)]; exact e
  have a1 := a.more e1
  have hx1 : (upd H dx (.own x)) x = none := by rw [upd_ne (Ne.symm hne)]; exact hx
  exact ⟨a1.cell (c := .ins Cl []) hx1 ⟨dx, [], upd_same, .nil⟩, (a.g.sl hx).2⟩
theorem passN {X : Cx} : Passes (L2N.CX X.prog X.w) X E0 := fun _ _ _ _ _ _ _ h => by
  obtain ⟨_, _, _, _, _, _, _, _, _, _, _, _, z⟩ := h
  exact z.elim
theorem mk_go {K : PySem.W.Frag} {sp : DSp} {vs : List V} {ss : List SV} {Q : SV → Cells → Prop} {QV : VK} {Cl : Addr} (a : At R σ Γ F H C) (hk : R.X.K = K) (r : SAll R.X.K F vs ss) (k : ∀ v s F' H' C', At R σ Γ F' H' C' → SAt R.X.K F' v s → Ex F F' → Q s C' → QV v H')
    (h : ∀ x, C x = none → sp (.c x :: ss) (cupd C x (.ins Cl [])) (fun s C' => s = .non ∧ Q (.c x) C') fun _ _ => False) :
    ∀ x dx, H x = none → H dx = none → dx ≠ x → toSp K sp (.ref x :: (vs ++ [])) (upd (upd H dx (.own x)) x (.ins Cl dx [])) (fun v H2 => v = .non ∧ QV (.ref x) H2) E0 := fun x dx hx hd hne => by
  subst hk
  obtain ⟨a1, cx⟩ := made_at (Cl := Cl) a hx hd hne
  rw [List.append_nil]
  refine ⟨F, _, .c x :: ss, _, _, a1.g, .cons rfl r, h x cx, fun s C' v F' H' q st g rv => ?_, fun e C' F' H' cls dd q => q.elim⟩
  obtain ⟨rfl, q⟩ := q
  exact ⟨sat_non rv, k (.ref x) (.c x) F' H' C' (a1.step st g) rfl st.exF q⟩
theorem ee_make {x : Str} {Cl : Addr} {k : Nat} {ps : List Str} {sp : DSp} {e : Expr} {es : List Expr} {p pos : Pos} {Q : SV → Cells → Prop} (G : Kc R.X.prog R.X.w R.X.K R.X.mg R.X.base x Cl k ps sp) (hr : Room (k + 1) R.X.A)
    (h : EA R (e :: es) Γ C fun ss C1 => ∀ q, C1 q = none → sp (.c q :: ss) (cupd C1 q (.ins Cl [])) (fun s C' => s = .non ∧ Q (.c q) C') fun _ _ => False)
    (hg : Gl R.X x := by rfl) (hdb : (x == ("__debug__" : Str)) = false := by decide) (he : starEach (e :: es) R.X.env = (false, eval e R.X.env) :: starEach es R.X.env := by rfl) (hpl : (backTo pos (starEach es R.X.env)).any (·.1) = false := by rfl) :
    EE R (.Call (.Name x p) (e :: es) [] pos) Γ C Q := fun σ F H a QV kk => by
  obtain ⟨f, fd, hm, M, hb, G⟩ := G
  refine wE_of (pe_make M G hr hg hm hb .nil passN pa_w hdb he hpl) ?_
  refine h σ F H a _ fun vs ss F1 H1 C1 a1 r1 e1 h1 => ?_
  exact mk_go a1 rfl r1 (fun v s F' H' C' a' r e q => kk v s F' H' C' a' r (e1.trans e) q) h1
theorem ee_make0 {x : Str} {Cl : Addr} {k : Nat} {ps : List Str} {sp : DSp} {p pos : Pos} {Q : SV → Cells → Prop} (G : Kc R.X.prog R.X.w R.X.K R.X.mg R.X.base x Cl k ps sp) (hr : Room (k + 1) R.X.A)
    (h : ∀ q, C q = none → sp [.c q] (cupd C q (.ins Cl [])) (fun s C' => s = .non ∧ Q (.c q) C') fun _ _ => False) (hg : Gl R.X x := by rfl) (hdb : (x == ("__debug__" : Str)) = false := by decide) :
    EE R (.Call (.Name x p) [] [] pos) Γ C Q := fun σ F H a QV kk => by
  obtain ⟨f, fd, hm, M, hb, G⟩ := G
  refine wE_of (pe_make0 M G hr hg hm hb .nil passN hdb) ?_
  exact mk_go a rfl .nil kk h
end
end Dl

namespace Dl
open PySem PySem.Spec PyProof.Rows L2
section
variable {R : Rx} {Γ : Gm} {C C' : Cells} {σ : L2.St} {F H F' H' : Hp}

/-! ### try .. except -/
theorem At.unset (a : At R σ Γ F H C) (i : Nat) : At R (σ.set i none) (Γ.set i none) F H C := by
  refine ⟨a.st, a.g, fun j s' h => ?_, by rw [List.length_set, List.length_set]; exact a.ln⟩
  by_cases hj : i = j
  · subst hj
    by_cases hl : i < Γ.length
    · rw [List.getElem?_set_self hl] at h
      cases h
    · rw [List.getElem?_eq_none (by rw [List.length_set]; omega)] at h
      cases h
  · rw [List.getElem?_set_ne hj] at h
    rw [List.getElem?_set_ne hj]
    exact a.sl j s' h
/-- in a try's body; in an except suite -/
abbrev Rt (R : Rx) (pn : List (Addr × Obj)) (xe : Value → Shared → Prop) (F H : Hp) (C : Cells) (er : Gm → Er → Cells → Prop) : Rx := ⟨R.X.tr pn xe, F, H, C, er⟩
abbrev Ru (R : Rx) (a : Addr) (oe : Obj) (pn : List (Addr × Obj)) : Rx := ⟨R.X.suite a ((a, oe) :: pn), R.F0, R.H0, R.C0, fun _ _ _ => False⟩
theorem takesN {X : Cx} : L2N.Takes X (fun _ _ _ _ => False) := fun _ _ x => by
  obtain ⟨_, _, _, _, _, _, _, _, _, _, _, _, _, _, _, _, z⟩ := x
  exact z.elim
theorem tk_false {R : Rx} (h : R.er = fun _ _ _ => False) : Tk R := ⟨fun _ _ _ _ => False, takesN, fun σ Γ F H C e cls dd _ q _ => by rw [h] at q; exact q⟩
theorem s_try_as (i : Nat) {x n : Str} {Cx : Addr} {body suite : List Stmt} {b0 : Stmt} {np pos pos' : Pos} {N : Nx} (hx : Names R.X x (.ref Cx)) (hs : R.X.stack = R.X.env :: R.X.outer) (hf : R.X.env.frame = some R.X.env.locals) (hN : R.X.N.Nodup) (tk : Tk R)
    (er : Gm → Er → Cells → Prop)
    (hb : ∀ (pn : List (Addr × Obj)) (xe : Value → Shared → Prop) (F H : Hp), Tk (Rt R pn xe F H C er) → PassesOwn (model R.X.prog R.X.w) R.X.A R.X.env xe → SS (Rt R pn xe F H C er) body Γ C N)
    (he : ∀ Γ' e C', er Γ' e C' → ∃ b, PySem.W.exmOne R.X.K (.ref e.cls) (.ref Cx) = some b ∧ (b = false → R.er Γ' e C') ∧ (b = true → e.fld = none ∧ ∀ (a : Addr) (oe : Obj) (pn : List (Addr × Obj)), L2N.Zn (.ref e.cls) none oe → (∃ vs, oe.data = .fields vs) →
      SS (Ru R a oe pn) (b0 :: suite) (Γ'.set i (some (.c a))) C' { nx := fun Γ2 C2 => N.nx (Γ2.set i none) C2, rt := N.rt, bk := fun Γ2 C2 => N.bk (Γ2.set i none) C2, ct := fun Γ2 C2 => N.ct (Γ2.set i none) C2 }))
    (hi : R.X.N[i]? = some n := by rfl) (hln : R.X.env.kindOf n = some .local := by rfl) :
    S1 R (.Try body [.ExceptHandler (some (.Name x np)) (some n) (b0 :: suite) pos'] [] [] pos) Γ C N := fun σ F H a D ok => by
  obtain ⟨Wo, tko, hWo⟩ := tk
  have bk : ∀ {pn xe σ' Γ' F' H' C'}, At (Rt R pn xe F H C er) σ' Γ' F' H' C' → At R σ' Γ' F' H' C' ∧ Ex F F' := fun {pn xe σ' Γ' F' H' C'} b => ⟨⟨a.st.trans b.st, b.g, b.sl, b.ln⟩, b.st.exF⟩
  refine wS_of (L2N.ps_try_as (tb := fun W D σ H => ∀ pn xe, L2N.Takes (R.X.tr pn xe) W → PassesOwn (model R.X.prog R.X.w) R.X.A R.X.env xe → wSs (R.X.tr pn xe) body D σ H)
    (ts := fun a cls d D σ H => ∀ oe pn, L2N.Zn cls d oe → (∃ vs, oe.data = .fields vs) → wSs (R.X.suite a ((a, oe) :: pn)) (b0 :: suite) D σ H) hs hf hN hi hln hx tko
    (fun W pn xe tkb po => ⟨fun pins s σ H D I h => h pn xe tkb po pins s I⟩) (fun a oe cls d pn hz hv => ⟨fun pins s σ H D I h => h oe pn hz hv pins s I⟩)) ?_
  intro pn xe tkb po
  refine hb pn xe F H ⟨_, tkb, fun σ' Γ' F' H' C' e cls dd a' q hea => ?_⟩ po σ F H ⟨Step.refl F H C, a.g, a.sl, a.ln⟩ D ⟨fun σ' Γ' F' H' C' a' e' q => ?_, fun σ' Γ' F' H' C' v s a' e' r q => ?_, fun σ' Γ' F' H' C' a' e' q => ?_, fun σ' Γ' F' H' C' a' e' q => ?_⟩
  · obtain ⟨a2, eF⟩ := bk a'
    obtain ⟨b, hm, hno, hyes⟩ := he Γ' e C' q
    have ea := hea
    obtain ⟨rfl, hfl⟩ := ea
    refine ⟨b, hm, fun hb1 ea hH oe pn2 hz hv => ?_, fun hb0 => hWo σ' Γ' F' H' C' e _ dd a2 (hno hb0) hea⟩
    obtain ⟨hfn, hsu⟩ := hyes hb1
    rw [hfn] at hfl
    have hd : dd = none := hfl
    subst hd
    have a3 : At (Ru R ea oe pn2) (σ'.set i (some (.ref ea))) (Γ'.set i (some (.c ea))) F' H' C' := by
      have a4 := a2.set (s := .c ea) (v := .ref ea) rfl i
      exact ⟨a4.st, a4.g, a4.sl, a4.ln⟩
    have back : ∀ {σ' Γ' F' H' C'}, At (Ru R ea oe pn2) σ' Γ' F' H' C' → At R (σ'.set i none) (Γ'.set i none) F' H' C' := fun b => At.unset (R := R) ⟨b.st, b.g, b.sl, b.ln⟩ i
    refine hsu ea oe pn2 hz hv _ F' H' a3 _ ⟨fun σ' Γ' F2 H' C' a' e' q => ok.nx _ _ F2 H' C' (back a') (eF.trans e') q, fun σ' Γ' F2 H' C' v s a' e' r q => ok.rt _ _ F2 H' C' v s (back a') (eF.trans e') r q, fun σ' Γ' F2 H' C' a' e' q => ok.bk _ _ F2 H' C' (back a') (eF.trans e') q, fun σ' Γ' F2 H' C' a' e' q => ok.ct _ _ F2 H' C' (back a') (eF.trans e') q⟩
  · obtain ⟨a2, eF⟩ := bk a'
    exact ok.nx σ' Γ' F' H' C' a2 eF q
  · obtain ⟨a2, eF⟩ := bk a'
    exact ok.rt σ' Γ' F' H' C' v s a2 eF r q
  · obtain ⟨a2, eF⟩ := bk a'
    exact ok.bk σ' Γ' F' H' C' a2 eF q
  · obtain ⟨a2, eF⟩ := bk a'
    exact ok.ct σ' Γ' F' H' C' a2 eF q
/-- isinstance of the pinned exception at a, of the class De -/
theorem call_isP {X : Cx} {a De : Addr} {oe : Obj} (hp : (a, oe) ∈ X.pn) (Ce : ExcC X.K De) (hz : L2N.Zn (.ref De) none oe) (hf : ∃ vs, oe.data = .fields vs) : CallR X (.builtin "isinstance") (rIsE X.K De a) := fun pins s σ H xs us Q I r h => by
  obtain ⟨c, cv, b, rfl, hcv, hk, q⟩ := h
  obtain ⟨u1, u2, rfl, r1, r2⟩ := vals2 r
  obtain rfl : u1 = Value.ref a := r1
  have ec := hcv _ r2
  subst ec
  have hg := (I.pin (a, oe) (List.mem_append_left _ hp)).1
  have J : PySem.W.InstAt s.heap a oe De none := by
    obtain ⟨vs, hv⟩ := hf
    obtain ⟨c1, d1, dt, sl⟩ := oe
    obtain ⟨z1, z2, _⟩ := hz
    simp only at z1 z2 hv
    subst z1 z2 hv
    exact ⟨hg, rfl, rfl, trivial⟩
  exact PySem.W.kia_one (PySem.W.handS_kitx_exc Ce.hg Ce.hk Ce.hs Ce.hd Ce.ha Ce.hn Ce.ht Ce.hm) I.kIn J hk (fun z => nomatch z) fun tk => ⟨.bl b, H, I.tok tk, rfl, q⟩
theorem ev_isE {a De : Addr} {oe : Obj} {x : Str} {ex : Expr} {b : Bool} {p p2 pos : Pos} {c : V} {cv : Value} (hp : (a, oe) ∈ R.X.pn) (Ce : ExcC R.X.K De) (hz : L2N.Zn (.ref De) none oe) (hf : ∃ vs, oe.data = .fields vs) (hm : R.X.mg "isinstance" = none) (ha : EV R ex Γ C (.c a))
    (hk : PySem.W.kitOne R.X.K (.ref De) cv = some b) (hc : ∀ u, RelV c u → u = cv) (pc : PE R.X (.Name x p2) (tC c))
    (hg : Gl R.X "isinstance" := by rfl) (hs : starEach [ex, .Name x p2] R.X.env = (false, eval ex R.X.env) :: starEach [.Name x p2] R.X.env := by rfl) (hs2 : starEach [.Name x p2] R.X.env = (false, eval (.Name x p2) R.X.env) :: starEach [] R.X.env := by rfl) (hpl : (backTo pos (starEach [.Name x p2] R.X.env)).any (·.1) = false := by rfl) :
    EV R (.Call (.Name "isinstance" p) [ex, .Name x p2] [] pos) Γ C (.bl b) := fun Q q σ F H at0 QV k => by
  refine wE_of (pe_callB (call_isP hp Ce hz hf) hg hm (by decide +kernel) (pa_cons pe_w (pa_cons pc pa_nil hs2) hs) (by decide) (by decide) hs hpl) ?_
  refine ha (fun s' C' => s' = .c a ∧ C' = C) ⟨rfl, rfl⟩ σ F H at0 _ fun v s' F1 H1 C1 a1 r1 e1 h1 => ?_
  obtain ⟨rfl, rfl⟩ := h1
  obtain rfl : v = .ref a := r1
  exact ⟨c, cv, b, rfl, hc, hk, k _ (.bl b) F1 H1 C1 a1 (Dp.bl _) e1 q⟩
/-- isinstance(e, X), X an own class; ValueError -/
theorem ev_isX {a De Cy : Addr} {oe : Obj} {x : Str} {ex : Expr} {b : Bool} {p p2 pos : Pos} (hp : (a, oe) ∈ R.X.pn) (Ce : ExcC R.X.K De) (hz : L2N.Zn (.ref De) none oe) (hf : ∃ vs, oe.data = .fields vs) (hm : R.X.mg "isinstance" = none) (ha : EV R ex Γ C (.c a))
    (hk : PySem.W.kitOne R.X.K (.ref De) (.ref Cy) = some b) (hx : R.X.mg x = some (.ref Cy)) (hgx : Gl R.X x := by rfl) (hdx : (x == ("__debug__" : Str)) = false := by decide)
    (hg : Gl R.X "isinstance" := by rfl) (hs : starEach [ex, .Name x p2] R.X.env = (false, eval ex R.X.env) :: starEach [.Name x p2] R.X.env := by rfl) (hs2 : starEach [.Name x p2] R.X.env = (false, eval (.Name x p2) R.X.env) :: starEach [] R.X.env := by rfl) (hpl : (backTo pos (starEach [.Name x p2] R.X.env)).any (·.1) = false := by rfl) :
    EV R (.Call (.Name "isinstance" p) [ex, .Name x p2] [] pos) Γ C (.bl b) := ev_isE hp Ce hz hf hm ha hk (c := .ref Cy) (fun u r => r) (pe_glob hgx hx rfl hdx) hg hs hs2 hpl
theorem ev_isVE {a De : Addr} {oe : Obj} {ex : Expr} {b : Bool} {p p2 pos : Pos} (hp : (a, oe) ∈ R.X.pn) (Ce : ExcC R.X.K De) (hz : L2N.Zn (.ref De) none oe) (hf : ∃ vs, oe.data = .fields vs) (hm : R.X.mg "isinstance" = none) (ha : EV R ex Γ C (.c a))
    (hk : PySem.W.kitOne R.X.K (.ref De) (.type "ValueError") = some b) (hx : R.X.mg "ValueError" = none) (hgx : Gl R.X "ValueError" := by rfl)
    (hg : Gl R.X "isinstance" := by rfl) (hs : starEach [ex, .Name "ValueError" p2] R.X.env = (false, eval ex R.X.env) :: starEach [.Name "ValueError" p2] R.X.env := by rfl) (hs2 : starEach [.Name "ValueError" p2] R.X.env = (false, eval (.Name "ValueError" p2) R.X.env) :: starEach [] R.X.env := by rfl) (hpl : (backTo pos (starEach [.Name "ValueError" p2] R.X.env)).any (·.1) = false := by rfl) :
    EV R (.Call (.Name "isinstance" p) [ex, .Name "ValueError" p2] [] pos) Γ C (.bl b) := ev_isE hp Ce hz hf hm ha hk (c := .ty "ValueError") (fun u r => r) (pe_bltn hgx hx (by decide +kernel) rfl) hg hs hs2 hpl

/-! ### defs that are called where an exception is handled: it is handed in, at a, of the class De -/
def ZnD (De : Addr) (o : Obj) : Prop := L2N.Zn (.ref De) none o ∧ ∃ vs, o.data = .fields vs
structure FnZ (P : Program) (w : World) (K : PySem.W.Frag) (mg : Str → Option Value) (base : Heap) (De : Addr) (k : Nat) (f : Addr) (fd : FuncData) (ps : List Str) (sp : Addr → Sp) : Prop where
  len : ∀ a vs H Q E, sp a vs H Q E → vs.length = ps.length
  go : ∀ (A : Around) (outer : List PySem.Env) (s : Shared) (H : Hp) (args : Args) (us : List Value) (vs : List V) (Q : VK) (E : XK) (a : Addr) (oe : Obj), L2H.RoomH k A → L2H.Hot1 A (a, oe) → ZnD De oe → L2H.PinOk outer H s (a, oe) → Env0 P w K mg base A outer s H →
    BindsTo s fd args (ps.zip us) → Vals vs us → sp a vs H Q E → codeAny (model P w) A (.call (.ref f) args) (CR (L2N.CX P w) outer P w H s Q E) s
/-- such a body's entry -/
structure BdZ extends Bd where
  a : Addr
  oe : Obj
abbrev Rz (P : Program) (w : World) (K : PySem.W.Frag) (mg : Str → Option Value) (base : Heap) (N : List Str) (qual : Str) (sc : Scope) (b : BdZ) : Rx :=
  ⟨L2H.cxH (L2N.CX P w) P w K mg base N qual sc b.f b.cdv b.A b.outer b.s b.H b.E (b.a, b.oe), b.F, b.H, b.C, fun _ => b.er⟩
def startG' (N : List Str) (ss : List SV) : Gm := ss.map some ++ List.replicate (N.length - ss.length) none
end
section
variable {P : Program} {w : World} {K : PySem.W.Frag} {mg : Str → Option Value} {base : Heap}
theorem fnZ_ok {x qual : Str} {params : Arguments} {body : List Stmt} {scope : Scope} {f De : Addr} {fd : FuncData} {N ps : List Str} {k : Nat} {sp : Addr → DSp} (Fd : FunD K x qual params body scope [] [] f fd) (S : FnScope N ps scope) (len : ∀ a ss C Q E, sp a ss C Q E → ss.length = ps.length)
    (hb : ∀ (b : BdZ) (ss : List SV) (Q : SV → Cells → Prop), ZnD De b.oe → Tk (Rz P w K mg base N qual scope b) → L2H.RoomH k (Rz P w K mg base N qual scope b).X.A → sp b.a ss b.C Q b.er → SS (Rz P w K mg base N qual scope b) body (startG N ss) b.C { nx := fun _ C' => Q .non C', rt := Q }) :
    FnZ P w K mg base De (k + 1) f fd ps (fun a => toSp K (sp a)) := by
  obtain ⟨oc, od, dV, kV, doc, pm, an, cdv, ct, osl, rfl, lk, hcd, _, _⟩ := Fd.ex
  have hlen : ∀ a vs H Q E, toSp K (sp a) vs H Q E → vs.length = ps.length := fun a vs H Q E ⟨F, C, ss, Q0, E0, g, r, hsp, _⟩ => by rw [Paired.length r]; exact len _ _ _ _ _ hsp
  refine ⟨hlen, fun A outer s H args us vs Q E a oe hr hot hz hpin e0 hbd r hsp => ?_⟩
  have inK : K.In s.heap := e0.mod.kin.keeps fun b o e => (e0.bs b o e).1
  have hlocal : ∀ y ∈ ps.zip us, scope.names.lookup y.1 = some .local ∨ (scope.names.lookup y.1 = some .cell ∧ ((cellsFrom (s.heap.objs.size + 1) scope.names []).lookup y.1).isSome = true) := fun y hy =>
    (S.par y.1 (List.of_mem_zip (a := y.1) (b := y.2) hy).1).elim .inl fun z => .inr ⟨z, PySem.W.cellsFrom_some _ _ _ (.inl z)⟩
  refine codeAny_call_function hr.depth (inK _ _ lk) rfl S.co S.gen rfl (PySem.W.codeRec_of inK hcd) (hbd _ _ _ _ ?_)
  refine wpAny_newFunctionEnv_cells S.kind hlocal fun env he s1 fresh => ?_
  subst he
  refine ⟨(e0.mod.nolimit.keeps fun b o e => (e0.bs b o e).1).keeps fresh.toInCall.keep, codeAny_func ?_⟩
  have hl := hlen _ _ _ _ _ hsp
  obtain ⟨F, C, ss, Q0, E0, g, rs, hsp, hQ, hE⟩ := hsp
  obtain ⟨hsl, hln⟩ := start_sl (N := N) rs
  have a0 : At (Rz P w K mg base N qual scope ⟨⟨f, cdv, A, outer, s, H, E, F, C, E0⟩, a, oe⟩) (L2.start N vs) (startG N ss) F H C := ⟨Step.refl F H C, g, hsl, hln⟩
  have I : Inv (L2H.cxH (L2N.CX P w) P w K mg base N qual scope f cdv A outer s H E (a, oe)) [] (L2.start N vs) H s1 := L2H.inv_startH S hpin e0 hl r fresh
  have body_ok := hb ⟨⟨f, cdv, A, outer, s, H, E, F, C, E0⟩, a, oe⟩ ss Q0 hz ⟨fun cls d _ H => E cls d H, L2N.takes_of rfl rfl rfl rfl, fun σ Γ F' H' C' e cls dd a he hea => hE e C' F' H' cls dd he a.st a.g hea⟩ (hr.deeper _) hsp (L2.start N vs) F H a0 { nx := fun _ H' => Q .non H', rt := Q }
    ⟨fun σ Γ F' H' C' a _ q => hQ .non C' .non F' H' q a.st a.g .non, fun σ Γ F' H' C' v s a _ r q => hQ s C' v F' H' q a.st a.g r, fun _ _ _ _ _ _ _ q => q, fun _ _ _ _ _ _ _ q => q⟩
  refine wpAny_mono (body_ok [] s1 I) (fun fl s' hs => ?_) fun _ _ z => z
  cases fl with
  | ret u =>
    obtain ⟨v, σ', H', J, rv, q⟩ := hs
    exact ⟨v, H', J.os, J.bare, J.base, J.hok, rv, q⟩
  | next =>
    obtain ⟨σ', H', J, q⟩ := hs
    exact ⟨V.non, H', J.os, J.bare, J.base, J.hok, rfl, q⟩
  | brk => exact (let ⟨_, _, _, q⟩ := hs; q : False).elim
  | cont => exact (let ⟨_, _, _, q⟩ := hs; q : False).elim
def FcZ (P : Program) (w : World) (K : PySem.W.Frag) (mg : Str → Option Value) (base : Heap) (De : Addr) (x : Str) (k : Nat) (ps : List Str) (sp : Addr → DSp) : Prop :=
  ∃ f fd, mg x = some (.ref f) ∧ PySem.W.keepIn K (.ref f) = true ∧ Binds K fd ps [] ∧ FnZ P w K mg base De k f fd ps (fun a => toSp K (sp a))
theorem fcZ_of {De : Addr} {x : Str} {st : Stmt} {N ps : List Str} {k : Nat} {sp : Addr → DSp} (h : HasF K mg x st) (S : FnScope N ps (defScope st))
    (hbd : ∀ (kV doc pm : Value) (an : Option Addr) (cdv ct : Value) (us : List Value), us.length = ps.length → bindArgs (PySem.W.fnOf x x (defArgs st) (defBody st) (defScope st) .none kV doc pm an cdv ct) ⟨us, []⟩ = pure (ps.zip us))
    (len : ∀ a ss C Q E, sp a ss C Q E → ss.length = ps.length)
    (hb : ∀ (b : BdZ) (ss : List SV) (Q : SV → Cells → Prop), ZnD De b.oe → Tk (Rz P w K mg base N x (defScope st) b) → L2H.RoomH k (Rz P w K mg base N x (defScope st) b).X.A → sp b.a ss b.C Q b.er → SS (Rz P w K mg base N x (defScope st) b) (defBody st) (startG N ss) b.C { nx := fun _ C' => Q .non C', rt := Q }) :
    FcZ P w K mg base De x (k + 1) ps sp := by
  obtain ⟨f, fd, hm, Fd⟩ := h
  exact ⟨f, fd, hm, Fd.kp, Fd.bindsN hbd, fnZ_ok Fd S len hb⟩
end
section
variable {R : Rx} {Γ : Gm} {C C' : Cells} {σ : L2.St} {F H F' H' : Hp}
/-- the exception at a is the one that is handled here -/
structure HotA (R : Rx) (a : Addr) (oe : Obj) (De : Addr) : Prop where
  mem : (a, oe) ∈ R.X.pn
  hd : R.X.A.handled = some (.ref a)
  z : ZnD De oe
theorem HotA.hot1 {a De : Addr} {oe : Obj} (h : HotA R a oe De) : L2H.Hot1 R.X.A (a, oe) := by
  obtain ⟨⟨_, _, cx⟩, vs, hv⟩ := h.z
  exact ⟨h.hd, vs, hv, cx vs hv⟩
theorem ee_callZ {x : Str} {k : Nat} {ps : List Str} {De a : Addr} {oe : Obj} {sp : Addr → DSp} {e : Expr} {es : List Expr} {p pos : Pos} {Q : SV → Cells → Prop} (G : FcZ R.X.prog R.X.w R.X.K R.X.mg R.X.base De x k ps sp) (hr : L2H.RoomH k R.X.A) (hot : HotA R a oe De) (tk : Tk R) (h : EA R (e :: es) Γ C fun ss C1 => sp a ss C1 Q (R.er Γ))
    (hg : Gl R.X x := by rfl) (hdb : (x == ("__debug__" : Str)) = false := by decide) (he : starEach (e :: es) R.X.env = (false, eval e R.X.env) :: starEach es R.X.env := by rfl) (hpl : (backTo pos (starEach es R.X.env)).any (·.1) = false := by rfl) :
    EE R (.Call (.Name x p) (e :: es) [] pos) Γ C Q := fun σ F H at0 QV kk pins s I => by
  obtain ⟨f, fd, hm, hk, hb, G⟩ := G
  obtain ⟨W, tk, hW⟩ := tk
  refine wpAny_Call_Name_kw (ld_glob I hg hm ?_ hdb)
  refine PySem.W.callWith_K (h₀ := R.X.base) I.ok.mod.kin hk (thn (h σ F H at0 (fun vs H1 => toSp R.X.K (sp a) vs H1 QV fun cls dd H' => W cls dd σ H') (fun vs ss F1 H1 C1 a1 r1 e1 h1 => sp_go a1 rfl hW r1 (fun v s F' H' C' a' r e q => kk v s F' H' C' a' r (e1.trans e) q) h1) pos pins s I) fun us s1 hh => ?_) he hpl
  obtain ⟨vs, H1, I1, r, q⟩ := hh
  refine ⟨I1.kIn, ?_⟩
  have hl : us.length = ps.length := (Vals.length r).symm.trans (G.len _ _ _ _ _ q)
  have b := hb s1 us I1.kIn (by rw [List.append_nil]; exact hl)
  rw [List.append_nil] at b
  have P1 := I1.pin (a, oe) (List.mem_append_left _ hot.mem)
  refine wpAny_call (codeAny_mono (G.go R.X.A R.X.stack s1 H1 ⟨us, []⟩ us vs QV (WE W σ) a oe hr hot.hot1 hot.z ⟨P1.1, P1.2.1, fun hm => (List.mem_cons.mp (I1.stkSub a hm)).elim P1.2.2.1 P1.2.2.2.1, P1.2.2.2.2⟩ I1.env0 b r q) fun rr s' hq => ?_)
  cases rr with
  | error ex => exact L2N.passAt tk σ pins H1 s1 ex s' I1 hq
  | ok fl =>
    cases fl with
    | ret u => exact I1.after hq
    | next => exact hq.elim
    | brk => exact hq.elim
    | cont => exact hq.elim

/-! ### enumerate, zip -/
theorem ei_enum {elts : List Expr} {kk : Nat} {tpos p pos : Pos} {e : Expr} {Q : (Cells → Prop) → Nat → (Nat → PyData) → Cells → Prop} (hm : R.X.mg "enumerate" = none) (h : EE R e Γ C fun s C1 => ∃ ds, DV C1 s (.list ds) ∧ Q (fun C => DV C s (.list ds)) ds.length (fun i => .tuple [.int i, gd ds i]) C1)
    (hg : Gl R.X "enumerate" := by rfl) (hs : starEach [e] R.X.env = [(false, eval e R.X.env)] := by rfl) (hs0 : starEach [e] R.X.env = (false, eval e R.X.env) :: starEach [] R.X.env := by rfl) : EI R (.Tuple elts kk tpos) (.Call (.Name "enumerate" p) [e] [] pos) Γ C Q := fun σ F H a QV k => by
  refine wI_of (pi_enum hg hm (pa_cons pe_w pa_nil hs0) hs) ?_
  refine h σ F H a _ fun v s F1 H1 C1 a1 r1 e1 h1 => ?_
  obtain ⟨ds, hd, q⟩ := h1
  have hD := dv_dp a1 r1 hd
  have : ∃ b xs, v = .ref b ∧ SqL R.X.K H1 b xs := by cases hD with | lst sq r => exact ⟨_, _, rfl, sq⟩
  obtain ⟨b, xs, rfl, sq⟩ := this
  refine ⟨b, xs, rfl, sq, k (Ite R.X.K b) F1 H1 C1 _ _ _ a1 e1 ?_ q⟩
  intro R2 σ2 Γ2 F2 H2 C2 hk a2 e2 hp2
  rw [← hk] at r1
  have hD2 := dv_dp a2 (r1.ex e2) hp2
  have : ∃ ys, SqL R2.X.K H2 b ys ∧ DpAll R2.X.K H2 ys ds := by cases hD2 with | lst sq r => exact ⟨_, sq, r⟩
  obtain ⟨ys, sq2, rd⟩ := this
  have ln := dpAll_len rd
  rw [← hk]
  refine ⟨fun i hi => ⟨ys, ys[i]'(by omega), sq2, List.getElem?_eq_getElem _⟩, fun i hi => ⟨ys, sq2, by omega⟩, fun i x H' hi y => ?_⟩
  obtain ⟨T, x', rfl, nT, rfl, y⟩ := y
  obtain ⟨a3, e3⟩ := a2.lay (o := .tup [.int (i : Nat), x']) nT
  refine ⟨_, a3, e3, ?_⟩
  have h3 := y ys sq2
  have hx : Dp R2.X.K (upd F2 T (.tup [.int (i : Nat), x'])) x' (gd ds i) := by
    rcases hp2 with hs' | ⟨c, ds', hs', hc, hl⟩
    · rw [hs'] at r1
      obtain ⟨b', zs, eb, sqF, rdF⟩ := sat_lst (r1.ex e2)
      cases eb
      have hz := y zs (a2.g.sub.sqL sqF)
      obtain ⟨d, hd1, hd2⟩ := dpAll_get' rdF hz
      unfold gd
      rw [hd1]
      exact dp_ex e3 hd2
    · rw [hs'] at r1
      cases hl
      have eb : V.ref b = .ref c := r1
      cases eb
      obtain ⟨vs, hv, rs⟩ := a2.g.cel b _ hc
      have hz := y vs (.inl (.inl hv))
      obtain ⟨d, hd1, hd2⟩ := dpAll_get' (sall_dp rs) hz
      unfold gd
      rw [hd1]
      exact dp_ex e3 hd2
  exact .tup (.inl (.inl upd_same)) (.cons (.int _) (.cons hx .nil))

/-! ### comprehensions -/
theorem At.poke (a : At R σ Γ F H C) {D : Addr} {o : HO} (hF : F D = none) (hC : C D = none) (hd : ∀ u, R.H0 D = some u → R.C0 D = none → False) : At R σ Γ F (upd H D o) C := by
  refine ⟨⟨a.st.exF, fun p u h c => ?_, a.st.newF, a.st.newC⟩, ⟨fun b u e => ?_, a.g.dis, fun b c e => ?_⟩, a.sl, a.ln⟩
  · have hp : p ≠ D := fun z => by subst z; exact hd u h c
    rw [upd_ne hp]; exact a.st.keep p u h c
  · have hp : b ≠ D := fun z => by subst z; rw [hF] at e; cases e
    rw [upd_ne hp]; exact a.g.sub b u e
  · have hp : b ≠ D := fun z => by subst z; rw [hC] at e; cases e
    exact (a.g.cel b c e).ex (Ex.refl F) (upd_ne hp)
theorem At.take (a : At R σ Γ F H C) {D : Addr} {o : HO} (hH : H D = some o) (hF : F D = none) (hC : C D = none) (hd : ∀ u, R.H0 D = some u → R.C0 D = none → False) : At R σ Γ (upd F D o) H C ∧ Ex F (upd F D o) := by
  have eF : Ex F (upd F D o) := fun b u e => by rw [upd_ne (ne_of_none e hF)]; exact e
  refine ⟨⟨⟨a.st.exF.trans eF, a.st.keep, fun p h => ?_, a.st.newC⟩, ⟨fun b u e => ?_, fun b c e => ?_, fun b c e => (a.g.cel b c e).ex eF rfl⟩, a.sl.ex eF, a.ln⟩, eF⟩
  · by_cases hp : p = D
    · subst hp
      cases e : R.H0 p with
      | none => exact .inr (.inl rfl)
      | some u => exact .inr (.inr fun z => hd u e z)
    · rw [upd_ne hp] at h; exact a.st.newF p h
  · by_cases hp : b = D
    · subst hp; rw [upd_same] at e; cases e; exact hH
    · rw [upd_ne hp] at e; exact a.g.sub b u e
  · have hp : b ≠ D := fun z => by subst z; rw [hC] at e; cases e
    rw [upd_ne hp]; exact a.g.dis b c e
/-- in a comprehension's block -/
abbrev Rk (R : Rx) (s : Shared) (Hb : Hp) (scope : Scope) (cl : List (Str × Addr)) (Cb : Addr) (fp : List Addr) (F H : Hp) (C : Cells) : Rx := ⟨R.X.blk s Hb scope (compEnvC scope cl Cb R.X.env) fp, F, H, C, fun _ _ _ => False⟩
def picks (n : Nat) (f : Nat → Bool) (z : Nat → PyData) : List PyData := ((List.range n).filter f).map z
theorem picks_yes {n : Nat} {f : Nat → Bool} {z : Nat → PyData} (h : f n = true) : picks (n + 1) f z = picks n f z ++ [z n] := by
  unfold picks
  rw [List.range_succ, List.filter_append, List.map_append, List.filter_cons, if_pos h]
  rfl
theorem picks_no {n : Nat} {f : Nat → Bool} {z : Nat → PyData} (h : f n = false) : picks (n + 1) f z = picks n f z := by
  unfold picks
  rw [List.range_succ, List.filter_append, List.map_append, List.filter_cons, if_neg (by rw [h]; decide)]
  exact List.append_nil _
theorem picks_len (n : Nat) (f : Nat → Bool) (z : Nat → PyData) : (picks n f z).length ≤ n := by
  unfold picks
  rw [List.length_map]
  have h := List.length_filter_le f (List.range n)
  rw [List.length_range] at h
  exact h
theorem picks_all (n : Nat) (z : Nat → PyData) : picks n (fun _ => true) z = (List.range n).map z := by
  unfold picks
  rw [List.filter_eq_self.mpr fun _ _ => rfl]
theorem step_hold {D : Addr} {o : HO} (st : Step F H C F' H' C) (hF : F D = none) (hH : H D = some o) (hC : C D = none) : F' D = none ∧ H' D = some o := by
  refine ⟨?_, st.keep D o hH hC⟩
  cases e : F' D with
  | none => rfl
  | some u =>
    rcases st.newF D (by rw [e]; simp) with z | z | z
    · exact absurd hF z
    · rw [hH] at z; cases z
    · exact absurd hC z
/-- the turns of a comprehension over one name; D the list so far -/
theorem lc_turns (j : Nat) {x : Str} {QV : VK} {F1 H1 : Hp} {J : It} {P : Cells → Prop} {n : Nat} {y : Nat → PyData} {tt : TT} {te : TE} (a1 : At R σ Γ F1 H1 C) (yl : Yl R.X.K F1 J P n y) (hP : P C) (hn : n < sizeLine) (f : Nat → Bool) (z : Nat → PyData)
    (ht : ∀ i, i < n → ∀ F H σ' (QT : Bool → Hp → Prop), Ex F1 F → G0 R.X.K F H C → SlAt R.X.K F σ' ((Γ.set j none).set j (some (.d (y i)))) → σ'.length = Γ.length → (∀ F' H', Step F H C F' H' C → G0 R.X.K F' H' C → QT (f i) H') → tt σ' H QT)
    (he : ∀ i, i < n → f i = true → ∀ F H σ' (QE : VK), Ex F1 F → G0 R.X.K F H C → SlAt R.X.K F σ' ((Γ.set j none).set j (some (.d (y i)))) → σ'.length = Γ.length → (∀ v F' H', Step F H C F' H' C → G0 R.X.K F' H' C → Dp R.X.K F' v (z i) → QE v H') → te σ' H QE)
    (k : ∀ D F' H' acc, At R σ Γ F' H' C → Ex F1 F' → F' D = none → C D = none → (∀ u, R.H0 D = some u → R.C0 D = none → False) → H' D = some (.lst acc) → DpAll R.X.K F' acc (picks n f z) → QV (.ref D) H') :
    ∀ D, H1 D = none → ∃ W : Nat → Nat → Hp → Prop, (∃ m, W 0 m (upd H1 D (.lst []))) ∧ ∀ i m H, W i m H →
      (J.stop i H ∧ QV (.ref D) H) ∨ (J.go i H ∧ ∃ Nx : Hp → Prop, (∀ H', Nx H' → ∃ m', m' < m ∧ W (i + 1) m' H') ∧ ∀ x H', J.yld i H x H' → gName j x (wipe σ [j]) H' fun σ2 H2 => wipe σ2 [j] = wipe σ [j] ∧ tt σ2 H2 fun b H3 =>
        if b = true then te σ2 H3 fun y H4 => ∃ acc, H4 D = some (.lst acc) ∧ acc.length < sizeLine ∧ Nx (upd H4 D (.lst (acc ++ [y]))) else Nx H3) := fun D hD => by
  have hCD : C D = none := (a1.g.sl hD).2
  have hFD : F1 D = none := (a1.g.sl hD).1
  have hd : ∀ u, R.H0 D = some u → R.C0 D = none → False := fun u h c => by
    have := a1.st.keep D u h c
    rw [hD] at this; cases this
  have a1' := a1.more (H' := upd H1 D (.lst [])) fun b u e => by rw [upd_ne (ne_of_none e hD)]; exact e
  refine ⟨fun i m H => m = n - i ∧ i ≤ n ∧ ∃ F' acc, At R σ Γ F' H C ∧ Ex F1 F' ∧ F' D = none ∧ H D = some (.lst acc) ∧ DpAll R.X.K F' acc (picks i f z), ⟨n, by simp, Nat.zero_le _, F1, [], a1', Ex.refl F1, hFD, upd_same, .nil⟩, ?_⟩
  rintro i m H ⟨rfl, hi, F', acc, a, e1, hF, hH, rd⟩
  obtain ⟨go, stop, yld⟩ := yl ⟨R.X, F', H, C, fun _ _ _ => False⟩ σ Γ F' H C rfl ⟨Step.refl _ _ _, a.g, a.sl, a.ln⟩ e1 hP
  by_cases hlt : i < n
  · refine .inr ⟨go i hlt, fun H' => ∃ F' acc, At R σ Γ F' H' C ∧ Ex F1 F' ∧ F' D = none ∧ H' D = some (.lst acc) ∧ DpAll R.X.K F' acc (picks (i + 1) f z), fun H' q => ⟨n - (i + 1), by omega, rfl, hlt, q⟩, fun x H2 hy => ?_⟩
    obtain ⟨F2, a2, e2, dx⟩ := yld i x H2 hlt hy
    obtain ⟨hF2, hH2⟩ := step_hold a2.st hF hH hCD
    refine ⟨?_, ?_⟩
    · show ((σ.set j none).set j (some x)).set j none = σ.set j none
      rw [List.set_set, List.set_set]
    · have a3 := (a2.unset j).set (s := .d (y i)) dx j
      refine ht i hlt F2 H2 _ _ (e1.trans e2) a2.g a3.sl (by rw [← a.ln]; show ((σ.set j none).set j (some x)).length = _; rw [List.length_set, List.length_set]) fun F3 H3 s3 g3 => ?_
      obtain ⟨hF3, hH3⟩ := step_hold s3 hF2 hH2 hCD
      have s13 := a2.st.trans s3
      cases hf : f i with
      | true =>
        rw [if_pos rfl]
        refine he i hlt hf F3 H3 _ _ ((e1.trans e2).trans s3.exF) g3 (a3.sl.ex s3.exF) (by rw [← a.ln]; show ((σ.set j none).set j (some x)).length = _; rw [List.length_set, List.length_set]) fun v F4 H4 s4 g4 dv => ?_
        obtain ⟨hF4, hH4⟩ := step_hold s4 hF3 hH3 hCD
        have s14 := s13.trans s4
        refine ⟨acc, hH4, by rw [dpAll_len rd]; exact Nat.lt_of_le_of_lt (picks_len i f z) (by omega), F4, acc ++ [v], ?_, e1.trans s14.exF, hF4, upd_same, ?_⟩
        · exact At.poke ⟨a.st.trans s14, g4, a.sl.ex s14.exF, a.ln⟩ hF4 hCD hd
        · rw [picks_yes hf]
          exact dpAll_append (dpAll_ex s14.exF rd) (.cons dv .nil)
      | false =>
        rw [if_neg (by decide)]
        refine ⟨F3, acc, ⟨a.st.trans s13, g3, a.sl.ex s13.exF, a.ln⟩, e1.trans s13.exF, hF3, hH3, ?_⟩
        rw [picks_no hf]
        exact dpAll_ex s13.exF rd
  · have hin : i = n := by omega
    subst hin
    exact .inl ⟨stop _ (Nat.le_refl _), k D F' H acc a e1 hF hCD hd hH rd⟩
section
variable {iter elt c : Expr} {x : Str} {px pos : Pos} {scope : Scope}
/-- what is asked of the element and of the test, in the block -/
def LE (R : Rx) (scope : Scope) (elt : Expr) (Γ : Gm) (C : Cells) (d : PyData) : Prop := ∀ s Hb Cb cl fp F H, EE (Rk R s Hb scope cl Cb fp F H C) elt Γ C fun v C' => v = .d d ∧ C' = C
def LT (R : Rx) (scope : Scope) (c : Expr) (Γ : Gm) (C : Cells) (b : Bool) : Prop := ∀ s Hb Cb cl fp F H, ET (Rk R s Hb scope cl Cb fp F H C) c Γ C fun v C' => v = b ∧ C' = C
theorem le_run {d : PyData} {σ' : L2.St} (h : LE R scope elt Γ C d) (g : G0 R.X.K F H C) (sl : SlAt R.X.K F σ' Γ) (ln : σ'.length = Γ.length) {QE : VK} (k : ∀ v F' H', Step F H C F' H' C → G0 R.X.K F' H' C → Dp R.X.K F' v d → QE v H') : ∀ s Hb Cb cl fp, wE (R.X.blk s Hb scope (compEnvC scope cl Cb R.X.env) fp) elt σ' H QE := fun s Hb Cb cl fp => by
  refine h s Hb Cb cl fp F H σ' F H ⟨Step.refl _ _ _, g, sl, ln⟩ QE fun v s' F' H' C' a' r e q => ?_
  obtain ⟨rfl, rfl⟩ := q
  exact k v F' H' a'.st a'.g r
theorem lt_run {b : Bool} {σ' : L2.St} (h : LT R scope c Γ C b) (g : G0 R.X.K F H C) (sl : SlAt R.X.K F σ' Γ) (ln : σ'.length = Γ.length) {QT : Bool → Hp → Prop} (k : ∀ F' H', Step F H C F' H' C → G0 R.X.K F' H' C → QT b H') : ∀ s Hb Cb cl fp, wT (R.X.blk s Hb scope (compEnvC scope cl Cb R.X.env) fp) c σ' H QT := fun s Hb Cb cl fp => by
  refine h s Hb Cb cl fp F H σ' F H ⟨Step.refl _ _ _, g, sl, ln⟩ QT fun v F' H' C' a' e q => ?_
  obtain ⟨rfl, rfl⟩ := q
  exact k F' H' a'.st a'.g
theorem set2_len (j : Nat) (s : SV) (Γ : Gm) : ((Γ.set j none).set j (some s)).length = Γ.length := by rw [List.length_set, List.length_set]
/-- [elt for x in iter], [elt for x in iter if c] -/
theorem ee_lc (j : Nat) {Q : SV → Cells → Prop} (hc : R.X.calm = true) (hN : R.X.N.Nodup)
    (h : EI R (.Name x px) iter Γ C fun P n y C1 => P C1 ∧ n < sizeLine ∧ ∃ z : Nat → PyData, (∀ i, i < n → LE R scope elt ((Γ.set j none).set j (some (.d (y i)))) C1 (z i)) ∧ Q (.d (.list ((List.range n).map z))) C1)
    (hj : R.X.N[j]? = some x := by rfl) (ok : BlkOk R.X.N R.X.env.scope scope [(x, j)] := by exact blkOk_by (by decide +kernel)) (hx : Loc scope x := by first | exact Or.inl rfl | exact Or.inr rfl)
    (hs : ∀ x, foldedSetIterable iter R.X.env x = pure x := by intro _; rfl) (hsc : ∀ cl Cb, (compEnvC scope cl Cb R.X.env).scope = scope := by intros; rfl) : EE R (.ListComp elt [⟨.Name x px, iter, [], 0⟩] scope pos) Γ C Q := fun σ F H a QV kk => by
  have hx' : ∀ cl Cb, Loc (compEnvC scope cl Cb R.X.env).scope x := fun cl Cb => by rw [hsc]; exact hx
  have hfn : ((scope.names.lookup x == some .cell) = true) ∨ scope.names.lookup x = some .local := by
    rcases hx with h | h
    · exact .inr h
    · exact .inl (by rw [h]; rfl)
  refine wE_of (pe_lc (own := [(x, j)]) (tt := tYes) (te := fun σ H Q => ∀ s Hb Cb cl fp, wE (R.X.blk s Hb scope (compEnvC scope cl Cb R.X.env) fp) elt σ H Q) hc hN pi_w ok
    (fun s Hb Cb cl fp => pg_name (i := j) hN hj (hx' cl Cb) (by rcases hfn with h | h; exact .inl h; exact .inr (by show (compEnvC scope cl Cb R.X.env).scope.names.lookup x = _; rw [hsc]; exact h))) (fun _ _ _ _ _ => pts_nil) (fun s Hb Cb cl fp => ⟨fun pins s' σ H Q I h => h s Hb Cb cl fp pins s' I⟩) hs) ?_
  refine h σ F H a _ fun J F1 H1 C1 P n y a1 e1 yl h1 => ?_
  obtain ⟨hP, hn, z, hz, q⟩ := h1
  refine lc_turns j (x := x) a1 yl hP hn (fun _ => true) z (fun i hi F H σ' QT e g sl ln k => k F H (Step.refl _ _ _) g) (fun i hi _ F H σ' QE e g sl ln k => le_run (hz i hi) g sl (by rw [set2_len]; exact ln) k) fun D F' H' acc a' e' hF hC hd hH rd => ?_
  obtain ⟨a2, e2⟩ := a'.take hH hF hC hd
  refine kk (.ref D) (.d (.list ((List.range n).map z))) _ H' C1 a2 (.lst (.inl (.inl upd_same)) (dpAll_ex e2 (by rw [← picks_all]; exact rd))) ((e1.trans e').trans e2) q
theorem ee_lcif (j : Nat) {Q : SV → Cells → Prop} (hc : R.X.calm = true) (hN : R.X.N.Nodup)
    (h : EI R (.Name x px) iter Γ C fun P n y C1 => P C1 ∧ n < sizeLine ∧ ∃ (f : Nat → Bool) (z : Nat → PyData), (∀ i, i < n → LT R scope c ((Γ.set j none).set j (some (.d (y i)))) C1 (f i)) ∧ (∀ i, i < n → f i = true → LE R scope elt ((Γ.set j none).set j (some (.d (y i)))) C1 (z i)) ∧ Q (.d (.list (picks n f z))) C1)
    (hj : R.X.N[j]? = some x := by rfl) (ok : BlkOk R.X.N R.X.env.scope scope [(x, j)] := by exact blkOk_by (by decide +kernel)) (hx : Loc scope x := by first | exact Or.inl rfl | exact Or.inr rfl)
    (hs : ∀ x, foldedSetIterable iter R.X.env x = pure x := by intro _; rfl) (hsc : ∀ cl Cb, (compEnvC scope cl Cb R.X.env).scope = scope := by intros; rfl) : EE R (.ListComp elt [⟨.Name x px, iter, [c], 0⟩] scope pos) Γ C Q := fun σ F H a QV kk => by
  have hx' : ∀ cl Cb, Loc (compEnvC scope cl Cb R.X.env).scope x := fun cl Cb => by rw [hsc]; exact hx
  have hfn : ((scope.names.lookup x == some .cell) = true) ∨ scope.names.lookup x = some .local := by
    rcases hx with h | h
    · exact .inr h
    · exact .inl (by rw [h]; rfl)
  refine wE_of (pe_lc (own := [(x, j)]) (tt := fun σ H Q => ∀ s Hb Cb cl fp, wT (R.X.blk s Hb scope (compEnvC scope cl Cb R.X.env) fp) c σ H Q) (te := fun σ H Q => ∀ s Hb Cb cl fp, wE (R.X.blk s Hb scope (compEnvC scope cl Cb R.X.env) fp) elt σ H Q) hc hN pi_w ok
    (fun s Hb Cb cl fp => pg_name (i := j) hN hj (hx' cl Cb) (by rcases hfn with h | h; exact .inl h; exact .inr (by show (compEnvC scope cl Cb R.X.env).scope.names.lookup x = _; rw [hsc]; exact h))) (fun s Hb Cb cl fp => pts_one ⟨fun pins s' σ H Q I h => h s Hb Cb cl fp pins s' I⟩) (fun s Hb Cb cl fp => ⟨fun pins s' σ H Q I h => h s Hb Cb cl fp pins s' I⟩) hs) ?_
  refine h σ F H a _ fun J F1 H1 C1 P n y a1 e1 yl h1 => ?_
  obtain ⟨hP, hn, f, z, hf, hz, q⟩ := h1
  refine lc_turns j (x := x) a1 yl hP hn f z (fun i hi F H σ' QT e g sl ln k => lt_run (hf i hi) g sl (by rw [set2_len]; exact ln) k) (fun i hi hfi F H σ' QE e g sl ln k => le_run (hz i hi hfi) g sl (by rw [set2_len]; exact ln) k) fun D F' H' acc a' e' hF hC hd hH rd => ?_
  obtain ⟨a2, e2⟩ := a'.take hH hF hC hd
  refine kk (.ref D) (.d (.list (picks n f z))) _ H' C1 a2 (.lst (.inl (.inl upd_same)) (dpAll_ex e2 rd)) ((e1.trans e').trans e2) q
end

/-! ### slices, texts -/
def cutL {α : Type} (xs : List α) (lo hi : Option Int) : List α := (xs.drop (HT.sIx xs.length 0 lo)).take (HT.sIx xs.length xs.length hi - HT.sIx xs.length 0 lo)
def tO (X : Cx) : Option Expr → TO
  | none => tNoPart
  | some e => tPart (wE X e)
theorem po_w {X : Cx} : ∀ {o : Option Expr}, PO X o (tO X o)
  | none => po_none
  | some _ => po_some pe_w
/-- a slice's part -/
def PV (R : Rx) (o : Option Expr) (Γ : Gm) (C : Cells) (oi : Option Int) : Prop := match o with
  | none => oi = none
  | some e => ∃ k, oi = some k ∧ EV R e Γ C (.int k)
theorem pv_none : PV R none Γ C none := rfl
theorem pv_some {e : Expr} {k : Int} (h : EV R e Γ C (.int k)) : PV R (some e) Γ C (some k) := ⟨k, rfl, h⟩
theorem pv_run {o : Option Expr} {oi : Option Int} (h : PV R o Γ C oi) (a : At R σ Γ F H C) {Q : Option Int → Hp → Prop} (k : ∀ F' H', At R σ Γ F' H' C → Ex F F' → Q oi H') : tO R.X o σ H Q := by
  cases o with
  | none =>
    cases h
    exact k F H a (Ex.refl F)
  | some e =>
    obtain ⟨i, rfl, h⟩ := h
    refine h (fun s C' => s = .int i ∧ C' = C) ⟨rfl, rfl⟩ σ F H a _ fun v s F1 H1 C1 a1 r1 e1 h1 => ?_
    obtain ⟨rfl, rfl⟩ := h1
    exact ⟨i, sat_int r1, k F1 H1 a1 e1⟩
theorem ev_slL {e : Expr} {lo hi : Option Expr} {l u : Option Int} {p2 pos : Pos} {ds : List PyData} {s : SV} (ha : EV R e Γ C s) (hd : DV C s (.list ds)) (hl : PV R lo Γ C l) (hu : PV R hi Γ C u) : EV R (.Subscript e (.Slice lo hi none p2) pos) Γ C (.d (.list (cutL ds l u))) := fun Q q σ F H a QV k => by
  refine wE_of (pe_slice sl_list pe_w po_w po_w) ?_
  refine ha (fun s' C' => s' = s ∧ C' = C) ⟨rfl, rfl⟩ σ F H a _ fun v s' F1 H1 C1 a1 r1 e1 h1 => ?_
  obtain ⟨rfl, rfl⟩ := h1
  refine pv_run hl a1 fun F2 H2 a2 e2 => pv_run hu a2 fun F3 H3 a3 e3 => ?_
  have key : ∃ p xs, v = .ref p ∧ SqL R.X.K H3 p xs ∧ DpAll R.X.K F3 xs ds := by
    rcases hd with rfl | ⟨c, ds', rfl, hc, hl'⟩
    · obtain ⟨p, xs, rfl, sq, rd⟩ := sat_lst (r1.ex (e2.trans e3))
      exact ⟨p, xs, rfl, a3.g.sub.sqL sq, rd⟩
    · cases hl'
      obtain rfl : v = .ref c := r1
      obtain ⟨vs, hv, rs⟩ := a3.g.cel c _ hc
      exact ⟨c, vs, rfl, .inl (.inl hv), sall_dp rs⟩
  obtain ⟨p, xs, rfl, sq, rd⟩ := key
  refine ⟨p, xs, rfl, sq, fun p' np => ?_⟩
  obtain ⟨a4, e4⟩ := a3.lay (o := .lst (cutV xs l u)) np
  refine k _ (.d (.list (cutL ds l u))) _ _ C1 a4 (.lst (.inl (.inl upd_same)) (dpAll_ex e4 ?_)) (((e1.trans e2).trans e3).trans e4) q
  unfold cutV cutL
  rw [dpAll_len rd]
  exact dpAll_take _ (dpAll_drop _ rd)
theorem ev_slS {e : Expr} {lo hi : Option Expr} {l u : Option Int} {p2 pos : Pos} {z : Str} (ha : EV R e Γ C (.str z)) (hz : z.length ≤ sizeLine) (hl : PV R lo Γ C l) (hu : PV R hi Γ C u) : EV R (.Subscript e (.Slice lo hi none p2) pos) Γ C (.str (cutS z l u)) := fun Q q σ F H a QV k => by
  refine wE_of (pe_slice sl_str pe_w po_w po_w) ?_
  refine ha (fun s' C' => s' = .str z ∧ C' = C) ⟨rfl, rfl⟩ σ F H a _ fun v s' F1 H1 C1 a1 r1 e1 h1 => ?_
  obtain ⟨rfl, rfl⟩ := h1
  refine pv_run hl a1 fun F2 H2 a2 e2 => pv_run hu a2 fun F3 H3 a3 e3 => ?_
  rw [sat_str r1]
  exact ⟨z, rfl, hz, k _ (.str (cutS z l u)) F3 H3 C1 a3 (Dp.str _) ((e1.trans e2).trans e3) q⟩
theorem strs_dp {K : PySem.W.Frag} {F : Hp} : ∀ ys : List Str, DpAll K F (ys.map V.str) (ys.map .str)
  | [] => .nil
  | y :: ys => .cons (.str y) (strs_dp ys)
theorem ev_split {o e : Expr} {apos pos : Pos} {a b : Str} (ho : EV R o Γ C (.str a)) (he : EV R e Γ C (.str b)) (hb : (b.length == 0) = false) (hz : a.length + 2 ≤ sizeLine) (hs : starEach [e] R.X.env = [(false, eval e R.X.env)] := by rfl) (hbase : attributeBase o "split" R.X.env (eval o R.X.env) = eval o R.X.env := by rfl) (hline : (apos.endLine == pos.line) = true := by rfl) :
    EV R (.Call (.Attribute o "split" apos) [e] [] pos) Γ C (.d (.list ((Txt.split a b).map .str))) := fun Q q σ F H at0 QV k => by
  refine wE_of (pe_split pe_w pe_w hs hbase hline) ?_
  refine ho (fun s' C' => s' = .str a ∧ C' = C) ⟨rfl, rfl⟩ σ F H at0 _ fun v s' F1 H1 C1 a1 r1 e1 h1 => ?_
  obtain ⟨rfl, rfl⟩ := h1
  refine ⟨⟨a, sat_str r1⟩, ?_⟩
  refine he (fun s' C' => s' = .str b ∧ C' = C1) ⟨rfl, rfl⟩ σ F1 H1 a1 _ fun u s' F2 H2 C2 a2 r2 e2 h2 => ?_
  obtain ⟨rfl, rfl⟩ := h2
  refine ⟨a, b, sat_str r1, by rw [sat_str r2], hb, hz, fun p np => ?_⟩
  obtain ⟨a3, e3⟩ := a2.lay (o := .lst ((Txt.split a b).map V.str)) np
  refine k _ (.d (.list ((Txt.split a b).map .str))) _ _ C2 a3 (.lst (.inl (.inl upd_same)) (strs_dp _)) ((e1.trans e2).trans e3) q
theorem strs_of {K : PySem.W.Frag} {F : Hp} : ∀ {vs : List V} {ys : List Str}, DpAll K F vs (ys.map .str) → vs = ys.map V.str
  | [], [], _ => rfl
  | _ :: _, _ :: _, .cons r t => by rw [List.map_cons, ← strs_of t]; cases r; rfl
theorem ev_join {o e : Expr} {apos pos : Pos} {a : Str} {ys : List Str} {s : SV} (ho : EV R o Γ C (.str a)) (he : EV R e Γ C s) (hd : DV C s (.list (ys.map .str))) (hz : (ys.map (·.length)).sum + ys.length * a.length ≤ 16777216) (hs : starEach [e] R.X.env = [(false, eval e R.X.env)] := by rfl) (hbase : attributeBase o "join" R.X.env (eval o R.X.env) = eval o R.X.env := by rfl) (hline : (apos.endLine == pos.line) = true := by rfl) :
    EV R (.Call (.Attribute o "join" apos) [e] [] pos) Γ C (.str (Txt.join a ys)) := fun Q q σ F H at0 QV k => by
  refine wE_of (pe_join pe_w pe_w hs hbase hline) ?_
  refine ho (fun s' C' => s' = .str a ∧ C' = C) ⟨rfl, rfl⟩ σ F H at0 _ fun v s' F1 H1 C1 a1 r1 e1 h1 => ?_
  obtain ⟨rfl, rfl⟩ := h1
  refine ⟨⟨a, sat_str r1⟩, ?_⟩
  refine he (fun s' C' => s' = s ∧ C' = C1) ⟨rfl, rfl⟩ σ F1 H1 a1 _ fun u s' F2 H2 C2 a2 r2 e2 h2 => ?_
  obtain ⟨rfl, rfl⟩ := h2
  have hD := dv_dp a2 r2 hd
  have : ∃ b xs, u = .ref b ∧ SqL R.X.K H2 b xs ∧ xs = ys.map V.str := by
    cases hD with
    | lst sq r => exact ⟨_, _, rfl, sq, strs_of r⟩
  obtain ⟨b, xs, rfl, sq, rfl⟩ := this
  exact ⟨a, b, ys, sat_str r1, rfl, .inl sq, hz, k _ (.str (Txt.join a ys)) F2 H2 C2 a2 (Dp.str _) (e1.trans e2) q⟩
theorem ev_intS {e : Expr} {p pos : Pos} {a : Str} {n : Int} (hm : R.X.mg "int" = none) (ha : EV R e Γ C (.str a)) (hn : PySem.intText? a = some n) (hl : a.length ≤ 640) (hg : Gl R.X "int" := by rfl) (hs : starEach [e] R.X.env = (false, eval e R.X.env) :: starEach [] R.X.env := by rfl) (hpl : (backTo pos (starEach [] R.X.env)).any (·.1) = false := by rfl) : EV R (.Call (.Name "int" p) [e] [] pos) Γ C (.int n) :=
  ev_cb (pe_callTy call_int_str hg hm (by decide +kernel) pa_w (by decide) (by decide) hs hpl) (av_cons ha av_nil hs) fun σ F H at0 vs r QV k => by
    obtain ⟨v, rfl, r1⟩ := sall1 r
    rw [sat_str r1]
    exact ⟨a, n, rfl, hn, hl, k _ F H at0 (Dp.int _) (Ex.refl F)⟩
theorem tv_inS {a b : Expr} {pos : Pos} {c : Nat} {z : Str} (ha : EV R a Γ C (.str ⟨#[c]⟩)) (hb : EV R b Γ C (.str z)) (hm : behindInMarks .In b = false := by rfl) : TV R (.Compare a [.In] [b] pos) Γ C (decide (c ∈ z.cps.toList)) := tv_op2 (pt_cmpR op_in_sign pe_w pe_w hm) ha hb fun σ F H at0 v u r1 r2 QV k => by
  rw [sat_str r1, sat_str r2]
  exact ⟨c, z, rfl, rfl, k _ F H at0 (Dp.bl _) (Ex.refl F)⟩
theorem tv_niS {a b : Expr} {pos : Pos} {c : Nat} {z : Str} (ha : EV R a Γ C (.str ⟨#[c]⟩)) (hb : EV R b Γ C (.str z)) (hm : behindInMarks .NotIn b = false := by rfl) : TV R (.Compare a [.NotIn] [b] pos) Γ C (!decide (c ∈ z.cps.toList)) := tv_op2 (pt_cmpR op_notIn_sign pe_w pe_w hm) ha hb fun σ F H at0 v u r1 r2 QV k => by
  rw [sat_str r1, sat_str r2]
  exact ⟨c, z, rfl, rfl, k _ F H at0 (Dp.bl _) (Ex.refl F)⟩
end
end Dl

namespace Dl
open PySem PySem.Spec PyProof.Rows L2
section
variable {R : Rx} {Γ : Gm} {C C' : Cells} {σ : L2.St} {F H F' H' : Hp}
/-! ### operations behind effects -/
def OW (R : Rx) (Γ : Gm) (C : Cells) (r : R2) (x y : SV) (Q : SV → Cells → Prop) : Prop := ∀ σ F H, At R σ Γ F H C → ∀ v u, SAt R.X.K F v x → SAt R.X.K F u y → ∀ QV : VK, (∀ w z F' H' C', At R σ Γ F' H' C' → SAt R.X.K F' w z → Ex F F' → Q z C' → QV w H') → r v u H QV
theorem OV.w {r : R2} {x y z : SV} {Q : SV → Cells → Prop} (h : OV R Γ C r x y z) (q : Q z C) : OW R Γ C r x y Q := fun σ F H a v u r1 r2 QV k => h σ F H a v u r1 r2 QV fun w F' H' a' r' e => k w z F' H' C a' r' e q
theorem ee_op2 {e a b : Expr} {r : R2} {Q : SV → Cells → Prop} (pe : PE R.X e (tOp r (wE R.X a) (wE R.X b))) (h : EE R a Γ C fun x C1 => EE R b Γ C1 fun y C2 => OW R Γ C2 r x y Q) : EE R e Γ C Q := fun σ F H at0 QV k => by
  refine wE_of pe ?_
  refine h σ F H at0 _ fun v s F1 H1 C1 a1 r1 e1 h1 => ?_
  refine h1 σ F1 H1 a1 _ fun u s2 F2 H2 C2 a2 r2 e2 h2 => ?_
  exact h2 σ F2 H2 a2 v u (r1.ex e2) r2 QV fun w z F3 H3 C3 a3 r3 e3 q => k w z F3 H3 C3 a3 r3 ((e1.trans e2).trans e3) q
theorem et_op2 {e a b : Expr} {r : R2} {Q : Bool → Cells → Prop} (pt : PT R.X e (tTest (tOp r (wE R.X a) (wE R.X b)))) (h : EE R a Γ C fun x C1 => EE R b Γ C1 fun y C2 => OW R Γ C2 r x y fun z C3 => ∃ c, z = .bl c ∧ Q c C3) : ET R e Γ C Q := fun σ F H at0 QV k => by
  refine wT_of pt ?_
  refine h σ F H at0 _ fun v s F1 H1 C1 a1 r1 e1 h1 => ?_
  refine h1 σ F1 H1 a1 _ fun u s2 F2 H2 C2 a2 r2 e2 h2 => ?_
  exact h2 σ F2 H2 a2 v u (r1.ex e2) r2 _ fun w z F3 H3 C3 a3 r3 e3 q => by
    obtain ⟨c, rfl, q⟩ := q
    exact ⟨c, sat_bl r3, k c F3 H3 C3 a3 ((e1.trans e2).trans e3) q⟩
section
variable {a b : Expr} {pos : Pos}
theorem ee_eqV {Q : SV → Cells → Prop} (hu : R.X.A.units + 64 < cLine) (h : EE R a Γ C fun s C1 => EE R b Γ C1 fun t C2 => ∃ x y, DV C2 s x ∧ DV C2 t y ∧ SeqAt.shaped x = true ∧ SeqAt.shaped y = true ∧ Q (.bl (PyData.eqv x y)) C2) : EE R (.Compare a [.Eq] [b] pos) Γ C Q :=
  ee_op2 (pe_cmpR (op_eqD hu) pe_w pe_w (nomark _)) (h.imp fun s C1 h1 => h1.imp fun t C2 ⟨x, y, h1, h2, h3, h4, q⟩ => (ov_eqV h1 h2 h3 h4).w q)
theorem et_neV {Q : Bool → Cells → Prop} (hu : R.X.A.units + 64 < cLine) (h : EE R a Γ C fun s C1 => EE R b Γ C1 fun t C2 => ∃ x y, DV C2 s x ∧ DV C2 t y ∧ SeqAt.shaped x = true ∧ SeqAt.shaped y = true ∧ Q (!PyData.eqv x y) C2) : ET R (.Compare a [.NotEq] [b] pos) Γ C Q :=
  et_op2 (pt_cmpR (op_neD hu) pe_w pe_w (nomark _)) (h.imp fun s C1 h1 => h1.imp fun t C2 ⟨x, y, h1, h2, h3, h4, q⟩ => (ov_neV h1 h2 h3 h4).w ⟨_, rfl, q⟩)
theorem et_eqV {Q : Bool → Cells → Prop} (hu : R.X.A.units + 64 < cLine) (h : EE R a Γ C fun s C1 => EE R b Γ C1 fun t C2 => ∃ x y, DV C2 s x ∧ DV C2 t y ∧ SeqAt.shaped x = true ∧ SeqAt.shaped y = true ∧ Q (PyData.eqv x y) C2) : ET R (.Compare a [.Eq] [b] pos) Γ C Q :=
  et_op2 (pt_cmpR (op_eqD hu) pe_w pe_w (nomark _)) (h.imp fun s C1 h1 => h1.imp fun t C2 ⟨x, y, h1, h2, h3, h4, q⟩ => (ov_eqV h1 h2 h3 h4).w ⟨_, rfl, q⟩)
end
theorem ee_neg {a : Expr} {pos : Pos} {Q : SV → Cells → Prop} (h : EE R a Γ C fun s C1 => ∃ i, s = .int i ∧ Q (.int (-i)) C1) : EE R (.UnaryOp .USub a pos) Γ C Q := fun σ F H at0 QV k => by
  refine wE_of (pe_un un_neg pe_w) ?_
  refine h σ F H at0 _ fun v s F1 H1 C1 a1 r1 e1 h1 => ?_
  obtain ⟨i, rfl, q⟩ := h1
  rw [sat_int r1]
  exact ⟨i, rfl, k _ (.int (-i)) F1 H1 C1 a1 (Dp.int _) e1 q⟩
theorem ee_not {a : Expr} {pos : Pos} {Q : SV → Cells → Prop} (h : EE R a Γ C fun s C1 => ∃ p, s = .bl p ∧ Q (.bl (!p)) C1) : EE R (.UnaryOp .Not a pos) Γ C Q := fun σ F H at0 QV k => by
  refine wE_of (pe_not pe_w) ?_
  refine h σ F H at0 _ fun v s F1 H1 C1 a1 r1 e1 h1 => ?_
  obtain ⟨p, rfl, q⟩ := h1
  exact ⟨p, sat_bl r1, k _ (.bl (!p)) F1 H1 C1 a1 (Dp.bl _) e1 q⟩
/-! ### zip -/
theorem dv_item {K : PySem.W.Frag} {s : SV} {ds : List PyData} {b : Addr} {i : Nat} {x' : V} {R2 : Rx} {σ2 : L2.St} {Γ2 : Gm} {F2 H2 : Hp} {C2 : Cells} (hk : R2.X.K = K) (a2 : At R2 σ2 Γ2 F2 H2 C2) (r1 : SAt K F2 (.ref b) s) (hp2 : DV C2 s (.list ds)) (y : ∀ xs, SqL K H2 b xs → xs[i]? = some x') : Dp K F2 x' (gd ds i) := by
  subst hk
  rcases hp2 with hs' | ⟨c, ds', hs', hc, hl⟩
  · rw [hs'] at r1
    obtain ⟨b', zs, eb, sqF, rdF⟩ := sat_lst r1
    cases eb
    have hz := y zs (a2.g.sub.sqL sqF)
    obtain ⟨d, hd1, hd2⟩ := dpAll_get' rdF hz
    unfold gd
    rw [hd1]
    exact hd2
  · rw [hs'] at r1
    cases hl
    have eb : V.ref b = .ref c := r1
    cases eb
    obtain ⟨vs, hv, rs⟩ := a2.g.cel b _ hc
    have hz := y vs (.inl (.inl hv))
    obtain ⟨d, hd1, hd2⟩ := dpAll_get' (sall_dp rs) hz
    unfold gd
    rw [hd1]
    exact hd2
theorem dv_sq {R2 : Rx} {σ2 : L2.St} {Γ2 : Gm} {F2 H2 : Hp} {C2 : Cells} {v : V} {s : SV} {ds : List PyData} (a2 : At R2 σ2 Γ2 F2 H2 C2) (r : SAt R2.X.K F2 v s) (h : DV C2 s (.list ds)) : ∃ b xs, v = .ref b ∧ SqL R2.X.K H2 b xs ∧ xs.length = ds.length := by
  have hD := dv_dp a2 r h
  cases hD with
  | lst sq r => exact ⟨_, _, rfl, sq, dpAll_len r⟩
theorem ei_zip {elts : List Expr} {kk : Nat} {tpos p pos : Pos} {e e2 : Expr} {Q : (Cells → Prop) → Nat → (Nat → PyData) → Cells → Prop} (hm : R.X.mg "zip" = none) (h : EE R e Γ C fun s C1 => EE R e2 Γ C1 fun t C2 => ∃ ds es, DV C2 s (.list ds) ∧ DV C2 t (.list es) ∧ Q (fun C => DV C s (.list ds) ∧ DV C t (.list es)) (min ds.length es.length) (fun i => .tuple [gd ds i, gd es i]) C2)
    (hg : Gl R.X "zip" := by rfl) (hs : starEach [e, e2] R.X.env = (false, eval e R.X.env) :: starEach [e2] R.X.env := by rfl) (hs0 : starEach [e2] R.X.env = (false, eval e2 R.X.env) :: starEach [] R.X.env := by rfl) (hpl : (backTo pos (starEach [e2] R.X.env)).any (·.1) = false := by rfl) : EI R (.Tuple elts kk tpos) (.Call (.Name "zip" p) [e, e2] [] pos) Γ C Q := fun σ F H a QV k => by
  refine wI_of (pi_zip hg hm (pa_cons pe_w (pa_cons pe_w pa_nil hs0) hs) hs hpl) ?_
  refine h σ F H a _ fun v s F1 H1 C1 a1 r1 e1 h1 => ?_
  refine h1 σ F1 H1 a1 _ fun u t F2 H2 C2 a2 r2 e2 h2 => ?_
  obtain ⟨ds, es, hd, he, q⟩ := h2
  obtain ⟨b, xs, rfl, sq, _⟩ := dv_sq a2 (r1.ex e2) hd
  obtain ⟨b', ys, rfl, sq', _⟩ := dv_sq a2 r2 he
  refine ⟨b, b', xs, ys, rfl, sq, sq', k (Itz R.X.K b b') F2 H2 C2 _ _ _ a2 (e1.trans e2) ?_ q⟩
  intro R2 σ2 Γ2 F3 H3 C3 hk a3 e3 hp3
  have s1 : SAt R2.X.K F3 (.ref b) s := by rw [hk]; exact (r1.ex e2).ex e3
  have s2 : SAt R2.X.K F3 (.ref b') t := by rw [hk]; exact r2.ex e3
  obtain ⟨_, xs3, eb, sq3, ln⟩ := dv_sq a3 s1 hp3.1
  cases eb
  obtain ⟨_, ys3, eb, sq3', ln'⟩ := dv_sq a3 s2 hp3.2
  cases eb
  rw [hk] at sq3 sq3' s1 s2
  refine ⟨fun i hi => ⟨xs3, ys3, xs3[i]'(by omega), ys3[i]'(by omega), sq3, sq3', List.getElem?_eq_getElem _, List.getElem?_eq_getElem _⟩, fun i hi => ⟨xs3, ys3, sq3, sq3', by omega⟩, fun i x H' hi y => ?_⟩
  obtain ⟨T, x', y', rfl, nT, rfl, hx, hy⟩ := y
  obtain ⟨a4, e4⟩ := a3.lay (o := .tup [x', y']) nT
  exact ⟨_, a4, e4, .tup (.inl (.inl upd_same)) (.cons (dp_ex e4 (dv_item hk a3 s1 hp3.1 hx)) (.cons (dp_ex e4 (dv_item hk a3 s2 hp3.2 hy)) .nil))⟩
end
/-! ### the end of a law -/
def spLaw : DSp := fun ss C Q _ => ∃ ns : List Int, ss = [.d (.list (ns.map .int))] ∧ ns.length ≤ 63 ∧ ∀ C', Q (.bl true) C'
theorem dp_ints {K : PySem.W.Frag} {H : Hp} : ∀ ns : List Int, DpAll K H (ns.map V.int) (ns.map .int)
  | [] => .nil
  | n :: ns => .cons (.int n) (dp_ints ns)
theorem law_sp {K : PySem.W.Frag} {H : Hp} {a : Addr} {ns : List Int} (hl : ns.length ≤ 63) (h : SqL K H a (ns.map V.int)) : toSp K spLaw [.ref a] H (fun v _ => v = .bl true) (fun _ _ _ => False) :=
  ⟨H, fun _ => none, [.d (.list (ns.map .int))], fun s _ => s = .bl true, fun _ _ => False, ⟨Ex.refl H, fun _ _ e => (nomatch e), fun _ _ e => (nomatch e)⟩, .cons (.lst h (dp_ints ns)) .nil, ⟨ns, rfl, hl, fun _ => rfl⟩,
    fun s C' v F' H' e _ _ r => by subst e; exact sat_bl r, fun _ _ _ _ _ _ q => q.elim⟩
theorem walk_end {l : PySem.W.OpenLaw} {k : Nat} {q : Program} {loose : List Str} {XP : (Str → Option Value) → Heap → Prop} {YP : World → Heap → Prop} {d : DefRec} {x : Str}
    (hn : l.most = some 63) (hdf : d.params.defaults = []) (hr : Room k callerA)
    (F : ∀ (w : World) (mg : Str → Option Value) (fa : Addr) (h : Heap), YP w h → h.Ns mainGlobals mg → mg d.name = some (.ref fa) →
      ∃ (K : PySem.W.Frag) (fd : FuncData), K.In h ∧ (∀ (s : Shared) (u : Value), BindsTo s fd ⟨[u], []⟩ [(x, u)]) ∧ ∀ base : Heap, K.In base → base.Ns mainGlobals mg → FnOk l.prog w K mg base (L2N.CX l.prog w) k fa fd [x] (toSp K spLaw)) :
    PySem.W.WalkO q loose XP YP l.row.toRowW d [] (fun f vs => PySem.call f vs) := by
  refine Att.attach_call hn hdf fun w s₀ s₁ mg mb fa o pm cd doc a vs ns G Y ho hd hcd hmg hobj hints hlen hg => ?_
  obtain ⟨K, fd, KX, hb, hF⟩ := F w mg fa _ Y G.T.g hmg
  exact law_call KX G.T.g G.T.b G.T.builtins G.T.nolimit hg hobj hints (Nat.le_trans hlen (by decide)) hr hF hb (fun H hO hS => law_sp hlen hS) fun H e s' z => by
    obtain ⟨_, _, _, _, _, _, _, _, _, _, _, _, z⟩ := z
    exact z.elim
/-- what isinstance asks of an exception's class -/
def excCB (K : PySem.W.Frag) (x : Str) : Bool :=
  He.eqO (PySem.W.findIn K (.ref (He.ga K x)) "__getattribute__") (some (some (.builtin "BaseException.__getattribute__"))) && (He.eqO (PySem.W.findIn K (.ref (He.ga K x)) "__getattr__") (some none) && (decide (PySem.W.subIn K (.ref (He.ga K x)) (.type "BaseException") = some true) &&
  (PySem.W.hasDictIn K (He.ga K x) && (He.eqO (PySem.W.findIn K (.ref (He.ga K x)) "__class__") (some (some (.builtin "object.__class__"))) && (He.eqO (PySem.W.specialIn K (.builtin "object.__class__") "__get__") (some (some (.builtin "getset_descriptor.__get__"))) &&
  (decide (PySem.W.takesIn K (.builtin "object.__class__") = some true) && decide (PySem.W.mroIn K (He.ga K x) (.type "object") = some true)))))))
theorem excCB_ok {K : PySem.W.Frag} {x : Str} (h : excCB K x = true) : ExcC K (He.ga K x) := by
  obtain ⟨h1, h⟩ := He.ba h
  obtain ⟨h2, h⟩ := He.ba h
  obtain ⟨h3, h⟩ := He.ba h
  obtain ⟨h4, h⟩ := He.ba h
  obtain ⟨h5, h⟩ := He.ba h
  obtain ⟨h6, h⟩ := He.ba h
  obtain ⟨h7, h8⟩ := He.ba h
  exact ⟨He.eqO_ok h1, He.eqO_ok h2, of_decide_eq_true h3, h4, He.eqO_ok h5, He.eqO_ok h6, of_decide_eq_true h7, of_decide_eq_true h8⟩
end Dl

namespace Dl
open PySem PySem.Spec PyProof.Rows L2
/-! ### a written dict of the module -/
def DicK (K : PySem.W.Frag) (w : World) (a : Addr) (ks : List Str) : Prop := He.dicW K a = some (He.keysIn w.params ks)
theorem tab_dic {fa : List He.Fa} {fn : List He.DefD} {ts : List He.Tab} {w : World} {K : PySem.W.Frag} (c : He.SaysT fa fn ts w K) (i : Nat) {t : He.Tab} (h : ts[i]? = some t := by rfl) : DicK K w (t.1 K) t.2 := by
  have e : ts.map (fun t => He.dicW K (t.1 K)) = ts.map fun t => some (He.keysIn w.params t.2) := congrArg (fun z : He.AlT => z.2) c
  have e2 : (ts.map fun t => He.dicW K (t.1 K))[i]? = (ts.map fun t => some (He.keysIn w.params t.2))[i]? := by rw [e]
  rw [List.getElem?_map, List.getElem?_map, h] at e2
  exact Option.some.inj e2
theorem keys_free {P : Params} {z : Str} : ∀ {l : List DictEntry} {ks : List Str}, l.map He.keyOf = He.keysIn P ks → z ∉ ks → (l.find? (·.key.isStr z) = none) ∧ l.any (·.refKey) = false
  | [], _, _, _ => ⟨rfl, rfl⟩
  | e :: r, [], h, _ => by cases h
  | e :: r, k :: ks, h, hz => by
    have h1 : He.keyOf e :: r.map He.keyOf = some (k, PyData.keyHash P k) :: He.keysIn P ks := h
    injection h1 with h2 h3
    obtain ⟨i1, i2⟩ := keys_free h3 fun q => hz (List.mem_cons_of_mem _ q)
    unfold He.keyOf at h2
    split at h2
    · rename_i x t q
      have h4 := Option.some.inj h2
      obtain ⟨h5, h6⟩ := Prod.mk.inj h4
      subst h5
      have hb : e.key.isStr z = false := by
        rw [q]
        show (x == z) = false
        exact beq_eq_false_iff_ne.mpr fun e => hz (by rw [← e]; exact List.mem_cons_self)
      have hr : e.refKey = false := by unfold DictEntry.refKey; rw [q]
      rw [List.find?_cons, hb, List.any_cons, hr]
      exact ⟨i1, i2⟩
    · cases h2
theorem DicK.no {K : PySem.W.Frag} {w : World} {a : Addr} {ks : List Str} {z : Str} (h : DicK K w a ks) (hz : z ∉ ks) : PySem.W.nsIn K a z = some none := by
  unfold DicK He.dicW at h
  cases q : K.lookup a with
  | none => rw [q] at h; cases h
  | some o =>
    obtain ⟨oc, od, dt, osl⟩ := o
    rw [q] at h
    cases oc with
    | type c =>
      cases od with
      | none =>
        cases dt with
        | dict es n =>
          have h1 : (match decide (c = "dict") && (osl.isEmpty && !(a == sysModules)) with
            | true => some (es.toList.map He.keyOf)
            | false => none) = some (He.keysIn w.params ks) := h
          have h2 : es.toList.map He.keyOf = He.keysIn w.params ks := by
            split at h1
            · exact Option.some.inj h1
            · cases h1
          obtain ⟨f1, f2⟩ := keys_free h2 hz
          unfold PySem.W.nsIn
          rw [q]
          show (match es.toList.find? (·.key.isStr z) with | some e => some (some e.val) | none => if es.toList.any (·.refKey) then none else some none) = _
          rw [f1]
          show (if es.toList.any (·.refKey) then none else some none) = _
          rw [f2]
          rfl
        | _ => cases h
      | some b => cases dt <;> cases h
    | _ => cases od <;> cases dt <;> cases h
theorem DicK.kd {K : PySem.W.Frag} {w : World} {a : Addr} {ks : List Str} (h : DicK K w a ks) : ∃ es n, KDict K w a es n := He.dicW_ok h
section
variable {R : Rx} {Γ : Gm} {C C' : Cells} {σ : L2.St} {F H F' H' : Hp} {a b : Expr} {pos : Pos}
theorem ev_gdic {x : Str} {d : Addr} {p : Pos} (hx : R.X.mg x = some (.ref d)) (hg : Gl R.X x := by rfl) (hd : (x == ("__debug__" : Str)) = false := by decide) : EV R (.Name x p) Γ C (.c d) := fun Q q σ F H at0 QV k => wE_of (pe_glob hg hx (v := .ref d) rfl hd) (k (.ref d) (.c d) F H C at0 rfl (Ex.refl F) q)
theorem tv_inD {d : Addr} {ks : List Str} {kvs : List (Str × He.Dv)} {z : Str} (D : DicK R.X.K R.X.w d ks) (V : He.valsB R.X.K d kvs = true) (hk : kvs.map (·.1) = ks) (ha : EV R a Γ C (.str z)) (hb : EV R b Γ C (.c d)) (hm : behindInMarks .In b = false := by rfl) : TV R (.Compare a [.In] [b] pos) Γ C (decide (z ∈ ks)) := by
  obtain ⟨es, n, kd⟩ := D.kd
  refine tv_op2 (pt_cmpR (op_in_kd kd) pe_w pe_w hm) ha hb fun σ F H at0 v u r1 r2 QV k => ?_
  rw [sat_str r1]
  obtain rfl : u = .ref d := r2
  by_cases hz : z ∈ ks
  · rw [← hk] at hz
    obtain ⟨q, hq, e⟩ := List.mem_map.mp hz
    obtain ⟨u, hu, _⟩ := He.valsB_ok V hq
    rw [e] at hu
    rw [← hk, decide_eq_true hz] at k
    exact ⟨z, some u, rfl, rfl, hu, k (.bl true) F H at0 (Dp.bl _) (Ex.refl F)⟩
  · rw [decide_eq_false hz] at k
    exact ⟨z, none, rfl, rfl, D.no hz, k (.bl false) F H at0 (Dp.bl _) (Ex.refl F)⟩
theorem tv_niD {d : Addr} {ks : List Str} {kvs : List (Str × He.Dv)} {z : Str} (D : DicK R.X.K R.X.w d ks) (V : He.valsB R.X.K d kvs = true) (hk : kvs.map (·.1) = ks) (ha : EV R a Γ C (.str z)) (hb : EV R b Γ C (.c d)) (hm : behindInMarks .NotIn b = false := by rfl) : TV R (.Compare a [.NotIn] [b] pos) Γ C (!decide (z ∈ ks)) := by
  obtain ⟨es, n, kd⟩ := D.kd
  refine tv_op2 (pt_cmpR (op_notIn_kd kd) pe_w pe_w hm) ha hb fun σ F H at0 v u r1 r2 QV k => ?_
  rw [sat_str r1]
  obtain rfl : u = .ref d := r2
  by_cases hz : z ∈ ks
  · rw [← hk] at hz
    obtain ⟨q, hq, e⟩ := List.mem_map.mp hz
    obtain ⟨u, hu, _⟩ := He.valsB_ok V hq
    rw [e] at hu
    rw [← hk, decide_eq_true hz] at k
    exact ⟨z, some u, rfl, rfl, hu, k (.bl false) F H at0 (Dp.bl _) (Ex.refl F)⟩
  · rw [decide_eq_false hz] at k
    exact ⟨z, none, rfl, rfl, D.no hz, k (.bl true) F H at0 (Dp.bl _) (Ex.refl F)⟩
/-- POWERS[many]: a whole number -/
theorem ev_ixDI {d : Addr} {ks : List Str} {kvs : List (Str × He.Dv)} {z : Str} {i : Int} (D : DicK R.X.K R.X.w d ks) (V : He.valsB R.X.K d kvs = true) (hq : (z, He.Dv.int i) ∈ kvs) (ha : EV R a Γ C (.c d)) (hb : EV R b Γ C (.str z)) (hs : PlainIx b := by exact fun _ _ => rfl) : EV R (.Subscript a b pos) Γ C (.int i) := by
  obtain ⟨es, n, kd⟩ := D.kd
  obtain ⟨u, hu, rv⟩ := He.valsB_ok V hq
  refine ev_op2 (pe_ix ix_kdict pe_w pe_w hs) ha hb fun σ F H at0 v w r1 r2 QV k => ?_
  rw [sat_str r2]
  obtain rfl : v = .ref d := r1
  exact ⟨d, z, .int i, rfl, rfl, ⟨es, n, u, kd.at_, kd.lit, hu, rv⟩, k _ F H at0 (Dp.int _) (Ex.refl F)⟩
/-! ### max, int, list * int -/
theorem ev_max {e e2 : Expr} {p : Pos} {i j : Int} (hc : R.X.calm = true) (hm : R.X.mg "max" = none) (ha : EV R e Γ C (.int i)) (hb : EV R e2 Γ C (.int j)) (hg : Gl R.X "max" := by rfl) (hs : starEach [e, e2] R.X.env = (false, eval e R.X.env) :: starEach [e2] R.X.env := by rfl) (hs2 : starEach [e2] R.X.env = (false, eval e2 R.X.env) :: starEach [] R.X.env := by rfl) (hpl : (backTo pos (starEach [e2] R.X.env)).any (·.1) = false := by rfl) : EV R (.Call (.Name "max" p) [e, e2] [] pos) Γ C (.int (max i j)) :=
  ev_cb (pe_callB (call_max2 hc) hg hm (by decide +kernel) pa_w (by decide) (by decide) hs hpl) (av_cons ha (av_cons hb av_nil hs2) hs) fun σ F H at0 vs r QV k => by
    obtain ⟨v, u, rfl, r1, r2⟩ := sall2 r
    rw [sat_int r1, sat_int r2]
    have e : (if j > i then j else i) = max i j := by split <;> omega
    exact ⟨i, j, rfl, by rw [e]; exact k _ F H at0 (Dp.int _) (Ex.refl F)⟩
theorem ev_intB {e : Expr} {p : Pos} {b : Bool} (hm : R.X.mg "int" = none) (ha : EV R e Γ C (.bl b)) (hg : Gl R.X "int" := by rfl) (hs : starEach [e] R.X.env = (false, eval e R.X.env) :: starEach [] R.X.env := by rfl) (hpl : (backTo pos (starEach [] R.X.env)).any (·.1) = false := by rfl) : EV R (.Call (.Name "int" p) [e] [] pos) Γ C (.int (if b then 1 else 0)) :=
  ev_cb (pe_callTy call_int1 hg hm (by decide +kernel) pa_w (by decide) (by decide) hs hpl) (av_cons ha av_nil hs) fun σ F H at0 vs r QV k => by
    obtain ⟨v, rfl, r1⟩ := sall1 r
    rw [sat_bl r1]
    exact .inr ⟨b, rfl, k _ F H at0 (Dp.int _) (Ex.refl F)⟩
theorem rep_dp {K : PySem.W.Frag} {F : Hp} {vs : List V} {ds : List PyData} (h : DpAll K F vs ds) : ∀ n : Nat, DpAll K F (List.replicate n vs).flatten (List.replicate n ds).flatten
  | 0 => .nil
  | n + 1 => by
    rw [List.replicate_succ, List.replicate_succ, List.flatten_cons, List.flatten_cons]
    have app : ∀ {vs ws : List V} {ds es : List PyData}, DpAll K F vs ds → DpAll K F ws es → DpAll K F (vs ++ ws) (ds ++ es) := by
      intro vs ws ds es h1 h2
      induction vs generalizing ds with
      | nil => cases h1; exact h2
      | cons v vs ih => cases h1 with | cons r t => exact .cons r (ih t)
    exact app h (rep_dp h n)
theorem ev_rep {es : List Expr} {p2 : Pos} {ds : List PyData} {k : Int} (ha : AV R es Γ C (ds.map SV.d)) (hl : ds.length ≤ sizeLine) (hb : ∀ C', EV R b Γ C' (.int k)) (h1 : 0 ≤ k) (h2 : k < 2 ^ 63) (hz : ds.length * k.toNat ≤ sizeLine) : EV R (.BinOp (.List es p2) .Mult b pos) Γ C (.d (.list (List.replicate k.toNat ds).flatten)) := fun Q q => by
  refine EE.drop (ee_op2 (pe_op op_rep pe_w pe_w) (ee_lstC (ha _ ⟨by rw [List.length_map]; exact hl, fun c hc => hb _ _ ?_⟩)))
  intro σ F H at0 v u r1 r2 QV kk
  obtain rfl : v = .ref c := r1
  rw [sat_int r2]
  obtain ⟨vs, hv, rs⟩ := at0.g.cel c _ cupd_same
  have rd := sall_dp rs
  refine ⟨c, k, vs, rfl, rfl, hv, by omega, h2, by rw [dpAll_len rd]; exact hz, fun p np => ?_⟩
  obtain ⟨a2, e2⟩ := at0.lay (o := .lst (List.replicate k.toNat vs).flatten) np
  exact kk (.ref p) (.d (.list (List.replicate k.toNat ds).flatten)) _ _ _ a2 (.lst (.inl (.inl upd_same)) (rep_dp (dpAll_ex e2 rd) _)) e2 ⟨C, fun q d hq => by
    by_cases e : q = c
    · rw [e, hc] at hq; cases hq
    · rw [cupd_ne e]; exact hq, q⟩
end
end Dl

namespace Bx
open PySem PySem.Spec PyProof.Rows L2 Dl
abbrev topS (i : Nat) : Stmt := PySem.Challenge.pw_boxnarrow_k11_numbers_written.main.body.getD i (.Pass ⟨0, 0, 0, 0⟩)
abbrev s_divisor : Stmt := topS 11
abbrev N_divisor : List Str := ["a", "b", "rest"]
theorem sc_divisor : FnScope N_divisor ["a", "b"] (defScope s_divisor) := ⟨rfl, rfl, rfl, by decide +kernel, rfl, by decide +kernel, by decide +kernel⟩
abbrev s_fraction : Stmt := topS 12
abbrev N_fraction : List Str := ["top", "bottom", "shared"]
theorem sc_fraction : FnScope N_fraction ["top", "bottom"] (defScope s_fraction) := ⟨rfl, rfl, rfl, by decide +kernel, rfl, by decide +kernel, by decide +kernel⟩
abbrev s_whole_of : Stmt := topS 15
abbrev N_whole_of : List Str := ["figures", "sign"]
theorem sc_whole_of : FnScope N_whole_of ["figures"] (defScope s_whole_of) := ⟨rfl, rfl, rfl, by decide +kernel, rfl, by decide +kernel, by decide +kernel⟩
abbrev s_number_of : Stmt := topS 16
abbrev N_number_of : List Str := ["word", "parts", "top", "bottom"]
theorem sc_number_of : FnScope N_number_of ["word"] (defScope s_number_of) := ⟨rfl, rfl, rfl, by decide +kernel, rfl, by decide +kernel, by decide +kernel⟩
abbrev s_written : Stmt := topS 17
abbrev N_written : List Str := ["a"]
theorem sc_written : FnScope N_written ["a"] (defScope s_written) := ⟨rfl, rfl, rfl, by decide +kernel, rfl, by decide +kernel, by decide +kernel⟩
abbrev s__law_cell_at : Stmt := topS 19
abbrev N__law_cell_at : List Str := ["_law_script", "_law_k"]
theorem sc__law_cell_at : FnScope N__law_cell_at ["_law_script", "_law_k"] (defScope s__law_cell_at) := ⟨rfl, rfl, rfl, by decide +kernel, rfl, by decide +kernel, by decide +kernel⟩
abbrev s__law_whole : Stmt := topS 20
abbrev N__law_whole : List Str := ["_law_found"]
theorem sc__law_whole : FnScope N__law_whole ["_law_found"] (defScope s__law_whole) := ⟨rfl, rfl, rfl, by decide +kernel, rfl, by decide +kernel, by decide +kernel⟩
abbrev s__law_divisor : Stmt := topS 21
abbrev N__law_divisor : List Str := ["_law_a", "_law_b", "_law_rest"]
theorem sc__law_divisor : FnScope N__law_divisor ["_law_a", "_law_b"] (defScope s__law_divisor) := ⟨rfl, rfl, rfl, by decide +kernel, rfl, by decide +kernel, by decide +kernel⟩
abbrev s__law_text : Stmt := topS 22
abbrev N__law_text : List Str := ["_law_top", "_law_bottom"]
theorem sc__law_text : FnScope N__law_text ["_law_top", "_law_bottom"] (defScope s__law_text) := ⟨rfl, rfl, rfl, by decide +kernel, rfl, by decide +kernel, by decide +kernel⟩
abbrev s__law_other : Stmt := topS 23
abbrev N__law_other : List Str := ["_law_e"]
theorem sc__law_other : FnScope N__law_other ["_law_e"] (defScope s__law_other) := ⟨rfl, rfl, rfl, by decide +kernel, rfl, by decide +kernel, by decide +kernel⟩
abbrev s__law_refused : Stmt := topS 24
abbrev N__law_refused : List Str := ["_law_word", "_law_heard", "_law_e"]
theorem sc__law_refused : FnScope N__law_refused ["_law_word"] (defScope s__law_refused) := ⟨rfl, rfl, rfl, by decide +kernel, rfl, by decide +kernel, by decide +kernel⟩
abbrev s__law_no_number : Stmt := topS 25
abbrev N__law_no_number : List Str := ["_law_way", "_law_cell", "_law_text_here", "_law_top", "_law_bottom", "_law_small", "_law_odd", "_law_at"]
theorem sc__law_no_number : FnScope N__law_no_number ["_law_way", "_law_cell", "_law_text_here", "_law_top", "_law_bottom"] (defScope s__law_no_number) := ⟨rfl, rfl, rfl, by decide +kernel, rfl, by decide +kernel, by decide +kernel⟩
abbrev s_law : Stmt := topS 26
abbrev N_law : List Str := ["_law_script", "_law_top", "_law_bottom", "_law_shared", "_law_text_here", "_law_found", "_law_far", "_law_great", "_law_heard"]
theorem sc_law : FnScope N_law ["_law_script"] (defScope s_law) := ⟨rfl, rfl, rfl, by decide +kernel, rfl, by decide +kernel, by decide +kernel⟩
abbrev cl (K : PySem.W.Frag) (x : Str) : Addr := He.ga K x
/-- what the top leaves -/
structure Top (w : World) (K : PySem.W.Frag) (mg : Str → Option Value) : Prop where
  f_divisor : HasF K mg "divisor" s_divisor
  f_fraction : HasF K mg "fraction" s_fraction
  f_whole_of : HasF K mg "whole_of" s_whole_of
  f_number_of : HasF K mg "number_of" s_number_of
  f_written : HasF K mg "written" s_written
  f__law_cell_at : HasF K mg "_law_cell_at" s__law_cell_at
  f__law_whole : HasF K mg "_law_whole" s__law_whole
  f__law_divisor : HasF K mg "_law_divisor" s__law_divisor
  f__law_text : HasF K mg "_law_text" s__law_text
  f__law_other : HasF K mg "_law_other" s__law_other
  f__law_refused : HasF K mg "_law_refused" s__law_refused
  f__law_no_number : HasF K mg "_law_no_number" s__law_no_number
  f_law : HasF K mg "law" s_law
  x_NoNumber : HasX K mg "NoNumber" (cl K "NoNumber")
  x_NoRow : HasX K mg "NoRow" (cl K "NoRow")
  g_BoxError : mg "BoxError" = some (.ref (cl K "BoxError"))
  g_NoBook : mg "NoBook" = some (.ref (cl K "NoBook"))
  g_NoCut : mg "NoCut" = some (.ref (cl K "NoCut"))
  g_NoName : mg "NoName" = some (.ref (cl K "NoName"))
  g_NoNumber : mg "NoNumber" = some (.ref (cl K "NoNumber"))
  g_NoRow : mg "NoRow" = some (.ref (cl K "NoRow"))
  g_NoSpan : mg "NoSpan" = some (.ref (cl K "NoSpan"))
  g_NoTask : mg "NoTask" = some (.ref (cl K "NoTask"))
  g_TooMuch : mg "TooMuch" = some (.ref (cl K "TooMuch"))
  e_NoNumber_BoxError : PySem.W.exmOne K (.ref (cl K "NoNumber")) (.ref (cl K "BoxError")) = some true
  e_NoRow_BoxError : PySem.W.exmOne K (.ref (cl K "NoRow")) (.ref (cl K "BoxError")) = some true
  ec_NoNumber : ExcC K (cl K "NoNumber")
  i_NoNumber_NoBook : PySem.W.kitOne K (.ref (cl K "NoNumber")) (.ref (cl K "NoBook")) = some false
  i_NoNumber_NoCut : PySem.W.kitOne K (.ref (cl K "NoNumber")) (.ref (cl K "NoCut")) = some false
  i_NoNumber_NoName : PySem.W.kitOne K (.ref (cl K "NoNumber")) (.ref (cl K "NoName")) = some false
  i_NoNumber_NoNumber : PySem.W.kitOne K (.ref (cl K "NoNumber")) (.ref (cl K "NoNumber")) = some true
  i_NoNumber_NoRow : PySem.W.kitOne K (.ref (cl K "NoNumber")) (.ref (cl K "NoRow")) = some false
  i_NoNumber_NoSpan : PySem.W.kitOne K (.ref (cl K "NoNumber")) (.ref (cl K "NoSpan")) = some false
  i_NoNumber_NoTask : PySem.W.kitOne K (.ref (cl K "NoNumber")) (.ref (cl K "NoTask")) = some false
  i_NoNumber_TooMuch : PySem.W.kitOne K (.ref (cl K "NoNumber")) (.ref (cl K "TooMuch")) = some false
  i_NoNumber_ValueError : PySem.W.kitOne K (.ref (cl K "NoNumber")) (.type "ValueError") = some true
  ec_NoRow : ExcC K (cl K "NoRow")
  i_NoRow_NoBook : PySem.W.kitOne K (.ref (cl K "NoRow")) (.ref (cl K "NoBook")) = some false
  i_NoRow_NoCut : PySem.W.kitOne K (.ref (cl K "NoRow")) (.ref (cl K "NoCut")) = some false
  i_NoRow_NoName : PySem.W.kitOne K (.ref (cl K "NoRow")) (.ref (cl K "NoName")) = some false
  i_NoRow_NoNumber : PySem.W.kitOne K (.ref (cl K "NoRow")) (.ref (cl K "NoNumber")) = some false
  i_NoRow_NoRow : PySem.W.kitOne K (.ref (cl K "NoRow")) (.ref (cl K "NoRow")) = some true
  i_NoRow_NoSpan : PySem.W.kitOne K (.ref (cl K "NoRow")) (.ref (cl K "NoSpan")) = some false
  i_NoRow_NoTask : PySem.W.kitOne K (.ref (cl K "NoRow")) (.ref (cl K "NoTask")) = some false
  i_NoRow_TooMuch : PySem.W.kitOne K (.ref (cl K "NoRow")) (.ref (cl K "TooMuch")) = some false
  i_NoRow_ValueError : PySem.W.kitOne K (.ref (cl K "NoRow")) (.type "ValueError") = some true
  v_FIGURES : ∃ t, mg "FIGURES" = some (.str "0123456789" t)
  b_abs : mg "abs" = none
  b_bool : mg "bool" = none
  b_int : mg "int" = none
  b_isinstance : mg "isinstance" = none
  b_len : mg "len" = none
  b_str : mg "str" = none
  b_tuple : mg "tuple" = none
  b_ValueError : mg "ValueError" = none
end Bx
namespace Bx
open PySem PySem.Spec PyProof.Rows L2 Dl
/-! ### small things -/
section
variable {R : Rx} {Γ : Gm} {C C' : Cells}
theorem go {e : Expr} {s : SV} {Q : SV → Cells → Prop} (h : EV R e Γ C s) (q : Q s C) : EE R e Γ C Q := h Q q
theorem goA {e : List Expr} {s : List SV} {Q : List SV → Cells → Prop} (h : AV R e Γ C s) (q : Q s C) : EA R e Γ C Q := h Q q
theorem goT {e : Expr} {s : Bool} {Q : Bool → Cells → Prop} (h : TV R e Γ C s) (q : Q s C) : ET R e Γ C Q := h Q q
theorem s_yes {c : Expr} {a b : List Stmt} {pos : Pos} {N : Nx} {p : Bool} (h : TV R c Γ C p) (hp : p = true) (k : SS R a Γ C N) : S1 R (.If c a b pos) Γ C N := s_ifv h (fun _ => k) fun q => by rw [hp] at q; cases q
theorem s_no {c : Expr} {a b : List Stmt} {pos : Pos} {N : Nx} {p : Bool} (h : TV R c Γ C p) (hp : p = false) (k : SS R b Γ C N) : S1 R (.If c a b pos) Γ C N := s_ifv h (fun q => by rw [hp] at q; cases q) fun _ => k
theorem beq_str (a b : Str) : (a == b) = decide (a = b) := by
  by_cases h : a = b
  · subst h; simp
  · rw [decide_eq_false h]; exact beq_eq_false_iff_ne.mpr h
theorem eqV_str (a b : Str) : eqV (.str a) (.str b) = decide (a = b) := beq_str a b
theorem inV_strs (x : Str) : ∀ ys : List Str, inV (.str x) (ys.map V.str) = decide (x ∈ ys)
  | [] => by simp [inV]
  | y :: ys => by
    have ih := inV_strs x ys
    unfold inV at ih ⊢
    rw [List.map_cons, List.any_cons, ih, eqV_str]
    by_cases h : y = x
    · subst h; simp
    · have h2 : ¬ x = y := fun e => h e.symm
      simp [h, h2]
theorem flat_strs : ∀ ys : List Str, (ys.map V.str).all flatV = true
  | [] => rfl
  | y :: ys => by rw [List.map_cons, List.all_cons, flat_strs ys]; rfl
theorem tv_inTS {a b : Expr} {pos : Pos} {x : Str} {ys : List Str} (ha : EV R a Γ C (.str x)) (hb : EV R b Γ C (.d (.tuple (ys.map .str)))) (hm : behindInMarks .In b = false := by rfl) : TV R (.Compare a [.In] [b] pos) Γ C (decide (x ∈ ys)) := tv_op2 (pt_cmpR op_in_seq pe_w pe_w hm) ha hb fun σ F H at0 v u r1 r2 QV k => by
  obtain ⟨q, zs, rfl, s2, d2⟩ := sat_tup r2
  have e := strs_of d2
  subst e
  rw [sat_str r1]
  refine ⟨q, _, rfl, .inr (at0.g.sub.sqT s2), rfl, flat_strs ys, ?_⟩
  rw [if_neg (by decide), inV_strs]
  exact k _ F H at0 (Dp.bl _) (Ex.refl F)
theorem tv_niTS {a b : Expr} {pos : Pos} {x : Str} {ys : List Str} (ha : EV R a Γ C (.str x)) (hb : EV R b Γ C (.d (.tuple (ys.map .str)))) (hm : behindInMarks .NotIn b = false := by rfl) : TV R (.Compare a [.NotIn] [b] pos) Γ C (!decide (x ∈ ys)) := tv_op2 (pt_cmpR op_notIn_seq pe_w pe_w hm) ha hb fun σ F H at0 v u r1 r2 QV k => by
  obtain ⟨q, zs, rfl, s2, d2⟩ := sat_tup r2
  have e := strs_of d2
  subst e
  rw [sat_str r1]
  refine ⟨q, _, rfl, .inr (at0.g.sub.sqT s2), rfl, flat_strs ys, ?_⟩
  rw [if_pos rfl, inV_strs]
  exact k _ F H at0 (Dp.bl _) (Ex.refl F)
theorem room64 {k : Nat} {A : Around} (h : Room k A) : A.units + 64 < cLine := h.units
theorem room65 {k : Nat} {A : Around} (h : Room k A) : A.units + 65 < cLine := by have := h.un; omega
end
/-! ### lists of data -/
theorem atI_map {α β : Type} (f : α → β) {xs : List α} {i : Int} {x : α} (h : atI xs i = some x) : atI (xs.map f) i = some (f x) := by
  unfold atI at h ⊢
  rw [List.length_map]
  cases q : ixN xs.length i with
  | none => rw [q] at h; cases h
  | some j =>
    rw [q] at h
    have h' : xs[j]? = some x := h
    show (xs.map f)[j]? = _
    rw [List.getElem?_map, h']
    rfl
theorem atI_lt {α : Type} {xs : List α} {i : Int} (h0 : 0 ≤ i) (h1 : i < xs.length) : atI xs i = some (xs[i.toNat]'(by omega)) := by
  have e : i = ((i.toNat : Nat) : Int) := by omega
  have := atI_nat (xs := xs) (j := i.toNat) (v := xs[i.toNat]'(by omega)) (List.getElem?_eq_getElem _)
  rw [← e] at this
  exact this
theorem atI_zero {α : Type} (x : α) (xs : List α) : atI (x :: xs) 0 = some x := atI_nat (j := 0) rfl
theorem len1 {α : Type} (a : α) : [a].length ≤ sizeLine := by simp only [List.length_cons, List.length_nil]; decide
theorem gd_map {α : Type} (f : α → PyData) (xs : List α) (i : Nat) (h : i < xs.length) : gd (xs.map f) i = f xs[i] := by
  unfold gd
  rw [List.getElem?_map, List.getElem?_eq_getElem h]
  rfl
/-! ### equality of data -/
theorem eqvAll_nil : PyData.eqvAll [] [] = true := by simp only [PyData.eqvAll]
theorem eqvAll_cons (x y : PyData) (xs ys : List PyData) : PyData.eqvAll (x :: xs) (y :: ys) = (PyData.eqv x y && PyData.eqvAll xs ys) := by simp only [PyData.eqvAll]
theorem eqvAll_nc (y : PyData) (ys : List PyData) : PyData.eqvAll [] (y :: ys) = false := by simp only [PyData.eqvAll]
theorem eqvAll_cn (y : PyData) (ys : List PyData) : PyData.eqvAll (y :: ys) [] = false := by simp only [PyData.eqvAll]
theorem eqv_tuple (xs ys : List PyData) : PyData.eqv (.tuple xs) (.tuple ys) = PyData.eqvAll xs ys := by simp only [PyData.eqv]
theorem eqv_list (xs ys : List PyData) : PyData.eqv (.list xs) (.list ys) = PyData.eqvAll xs ys := by simp only [PyData.eqv]
theorem eqv_int (i j : Int) : PyData.eqv (.int i) (.int j) = decide (i = j) := by
  simp only [PyData.eqv]
  by_cases h : i = j
  · subst h; simp
  · rw [decide_eq_false h]; exact beq_eq_false_iff_ne.mpr h
theorem eqv_str (i j : Str) : PyData.eqv (.str i) (.str j) = decide (i = j) := by simp only [PyData.eqv]; exact beq_str i j
theorem eqv_bool (i j : Bool) : PyData.eqv (.bool i) (.bool j) = decide (i = j) := by simp only [PyData.eqv]; cases i <;> cases j <;> rfl
theorem eqv_is (i : Int) (s : Str) : PyData.eqv (.int i) (.str s) = false := by simp only [PyData.eqv]
theorem eqv_si (i : Int) (s : Str) : PyData.eqv (.str s) (.int i) = false := by simp only [PyData.eqv]
theorem can_int (i : Int) : PyData.canLay0 (.int i) = true := by simp only [PyData.canLay0]
theorem can_str (x : Str) : PyData.canLay0 (.str x) = PyData.strOk x := by simp only [PyData.canLay0]
theorem can_tup (xs : List PyData) : PyData.canLay0 (.tuple xs) = PyData.canLayAll0 xs := by simp only [PyData.canLay0]
theorem can_list (xs : List PyData) : PyData.canLay0 (.list xs) = PyData.canLayAll0 xs := by simp only [PyData.canLay0]
theorem can_bool (b : Bool) : PyData.canLay0 (.bool b) = true := by simp only [PyData.canLay0]
theorem can_non : PyData.canLay0 .none = true := by simp only [PyData.canLay0]
theorem canAll_nil : PyData.canLayAll0 [] = true := by simp only [PyData.canLayAll0]
theorem canAll_cons (x : PyData) (xs : List PyData) : PyData.canLayAll0 (x :: xs) = (PyData.canLay0 x && PyData.canLayAll0 xs) := by simp only [PyData.canLayAll0]
theorem dep_int (i : Int) : PyData.depth (.int i) = 0 := by simp only [PyData.depth]
theorem dep_str (i : Str) : PyData.depth (.str i) = 0 := by simp only [PyData.depth]
theorem dep_bool (i : Bool) : PyData.depth (.bool i) = 0 := by simp only [PyData.depth]
theorem dep_non : PyData.depth .none = 0 := by simp only [PyData.depth]
theorem dep_tup (xs : List PyData) : PyData.depth (.tuple xs) = PyData.depthAll xs + 1 := by simp only [PyData.depth]
theorem dep_list (xs : List PyData) : PyData.depth (.list xs) = PyData.depthAll xs + 1 := by simp only [PyData.depth]
theorem depAll_nil : PyData.depthAll [] = 0 := by simp only [PyData.depthAll]
theorem depAll_cons (x : PyData) (xs : List PyData) : PyData.depthAll (x :: xs) = max (PyData.depth x) (PyData.depthAll xs) := by simp only [PyData.depthAll]
theorem shaped_iff {d : PyData} : SeqAt.shaped d = true ↔ d.canLay0 = true ∧ d.depth ≤ 64 := by
  unfold SeqAt.shaped
  rw [Bool.and_eq_true, decide_eq_true_eq]
/-- shapes by a bound of the depth -/
def Sh (n : Nat) (d : PyData) : Prop := d.canLay0 = true ∧ d.depth ≤ n
theorem Sh.ok {n : Nat} {d : PyData} (h : Sh n d) (hn : n ≤ 64 := by decide) : SeqAt.shaped d = true := shaped_iff.mpr ⟨h.1, Nat.le_trans h.2 hn⟩
theorem sh_int {n : Nat} (i : Int) : Sh n (.int i) := ⟨can_int i, by rw [dep_int]; exact Nat.zero_le _⟩
theorem sh_bool {n : Nat} (i : Bool) : Sh n (.bool i) := ⟨can_bool i, by rw [dep_bool]; exact Nat.zero_le _⟩
theorem sh_non {n : Nat} : Sh n .none := ⟨can_non, by rw [dep_non]; exact Nat.zero_le _⟩
theorem sh_str {n : Nat} {x : Str} (h : PyData.strOk x = true) : Sh n (.str x) := ⟨by rw [can_str]; exact h, by rw [dep_str]; exact Nat.zero_le _⟩
def ShAll (n : Nat) (ds : List PyData) : Prop := ∀ d ∈ ds, Sh n d
theorem shAll_can {n : Nat} : ∀ {ds : List PyData}, ShAll n ds → PyData.canLayAll0 ds = true ∧ PyData.depthAll ds ≤ n
  | [], _ => ⟨canAll_nil, by rw [depAll_nil]; exact Nat.zero_le _⟩
  | d :: ds, h => by
    obtain ⟨h1, h2⟩ := shAll_can (ds := ds) fun e he => h e (List.mem_cons_of_mem _ he)
    obtain ⟨h3, h4⟩ := h d List.mem_cons_self
    rw [canAll_cons, depAll_cons, h1, h3]
    exact ⟨rfl, by omega⟩
theorem sh_tup {n : Nat} {ds : List PyData} (h : ShAll n ds) : Sh (n + 1) (.tuple ds) := by
  obtain ⟨h1, h2⟩ := shAll_can h
  exact ⟨by rw [can_tup]; exact h1, by rw [dep_tup]; omega⟩
theorem sh_list {n : Nat} {ds : List PyData} (h : ShAll n ds) : Sh (n + 1) (.list ds) := by
  obtain ⟨h1, h2⟩ := shAll_can h
  exact ⟨by rw [can_list]; exact h1, by rw [dep_list]; omega⟩
theorem shAll_nil {n : Nat} : ShAll n [] := fun d h => nomatch h
theorem shAll_cons {n : Nat} {d : PyData} {ds : List PyData} (h : Sh n d) (h2 : ShAll n ds) : ShAll n (d :: ds) := fun e he => by
  rcases List.mem_cons.mp he with rfl | he
  · exact h
  · exact h2 e he
theorem shAll_map {α : Type} {n : Nat} {f : α → PyData} {xs : List α} (h : ∀ x ∈ xs, Sh n (f x)) : ShAll n (xs.map f) := fun d hd => by
  obtain ⟨x, hx, rfl⟩ := List.mem_map.mp hd
  exact h x hx
end Bx
namespace Bx
open PySem PySem.Spec PyProof.Rows L2 Dl TL NumText
/-! ### numbers as texts -/
def isDig (c : Nat) : Bool := decide (48 ≤ c ∧ c ≤ 57)
theorem allDig {l : List Nat} : l.all isDig = true ↔ AllDigits l := by
  rw [List.all_eq_true]
  exact ⟨fun h c hc => of_decide_eq_true (h c hc), fun h c hc => decide_eq_true (h c hc)⟩
/-- the whole number that one to nine figures write -/
def wholeM (l : List Nat) : Option Nat := if l = [] ∨ 9 < l.length then none else if l.all isDig = false then none else if l.head? = some 48 ∧ 1 < l.length then none else some (digitsVal l)
/-- the parts between the strokes -/
def strokes (l : List Nat) : List (List Nat) := spl [47] 0 [] l
theorem pre47 (c : Nat) (r : List Nat) : pre [47] (c :: r) = decide (c = 47) := by
  show ([c] == [47]) = _
  by_cases h : c = 47
  · subst h; rfl
  · rw [decide_eq_false h]
    exact beq_eq_false_iff_ne.mpr fun e => h (List.cons.inj e).1
theorem spl47_other {l : List Nat} (h : 47 ∉ l) : ∀ acc, spl [47] 0 acc l = [acc ++ l] := by
  induction l with
  | nil => intro acc; rw [spl_nil, List.append_nil]
  | cons c r ih =>
    intro acc
    have h1 : ¬ c = 47 := fun e => h (by rw [e]; exact List.mem_cons_self)
    rw [spl_miss (by rw [pre47]; exact decide_eq_false h1), ih fun q => h (List.mem_cons_of_mem _ q), List.append_assoc]
    rfl
theorem spl47_hit {l : List Nat} (h : 47 ∉ l) (r : List Nat) : ∀ acc, spl [47] 0 acc (l ++ 47 :: r) = (acc ++ l) :: spl [47] 0 [] r := by
  induction l with
  | nil => intro acc; rw [List.nil_append, spl_hit (by rw [pre47]; rfl), List.append_nil]; rfl
  | cons c l ih =>
    intro acc
    have h1 : ¬ c = 47 := fun e => h (by rw [e]; exact List.mem_cons_self)
    rw [List.cons_append, spl_miss (by rw [pre47]; exact decide_eq_false h1), ih fun q => h (List.mem_cons_of_mem _ q), List.append_assoc]
    rfl
theorem strokes_one {l : List Nat} (h : 47 ∉ l) : strokes l = [l] := by unfold strokes; rw [spl47_other h]; rfl
theorem strokes_two {l r : List Nat} (h : 47 ∉ l) (h2 : 47 ∉ r) : strokes (l ++ 47 :: r) = [l, r] := by unfold strokes; rw [spl47_hit h, spl47_other h2]; rfl
theorem strokes_cons {l r : List Nat} (h : 47 ∉ l) : strokes (l ++ 47 :: r) = l :: strokes r := by unfold strokes; rw [spl47_hit h]; rfl
theorem strokes_ne (l : List Nat) : strokes l ≠ [] := by
  by_cases h : 47 ∈ l
  · obtain ⟨a, b, rfl, ha⟩ := List.append_of_mem h |>.elim fun a ⟨b, e⟩ => by
      have key : ∀ l : List Nat, 47 ∈ l → ∃ a b, l = a ++ 47 :: b ∧ 47 ∉ a := by
        intro l
        induction l with
        | nil => intro h; cases h
        | cons c r ih =>
          intro h
          by_cases hc : c = 47
          · exact ⟨[], r, by rw [hc]; rfl, fun z => nomatch z⟩
          · rcases List.mem_cons.mp h with z | z
            · exact absurd z.symm hc
            · obtain ⟨a, b, e, ha⟩ := ih z
              refine ⟨c :: a, b, by rw [e]; rfl, fun q => ?_⟩
              rcases List.mem_cons.mp q with z | z
              · exact hc z.symm
              · exact ha z
      exact key l h
    rw [strokes_cons ha]; simp
  · rw [strokes_one h]; simp
/-- a fraction of two whole numbers, the second above nought -/
def fracM (t b : Int) : Int × Int := if b < 0 then (-t / (Int.gcd t b : Int), -b / (Int.gcd t b : Int)) else (t / (Int.gcd t b : Int), b / (Int.gcd t b : Int))
/-- the top with its sign -/
def topM (l : List Nat) : Option Int := if l.take 1 = [45] then match wholeM (l.drop 1) with
  | none => none
  | some 0 => none
  | some (n + 1) => some (-((n + 1 : Nat) : Int)) else (wholeM l).map Int.ofNat
/-- the fraction that a text writes -/
def numM (l : List Nat) : Option (Int × Int) := match strokes l with
  | [p] => (topM p).map fun t => (t, 1)
  | [p, q] => match topM p, wholeM q with
    | some t, some b => if (b : Int) < 2 ∨ fracM t b ≠ (t, (b : Int)) then none else some (t, b)
    | _, _ => none
  | _ => none
theorem wholeM_lt {l : List Nat} {n : Nat} (h : wholeM l = some n) : n < 10 ^ 9 := by
  unfold wholeM at h
  split at h
  · cases h
  · rename_i h1
    split at h
    · cases h
    · rename_i h2
      split at h
      · cases h
      · cases h
        have hd : AllDigits l := allDig.mp (by simpa using h2)
        have hl : l.length ≤ 9 := by have := h1; omega
        have key : ∀ (l : List Nat) (a : Nat), AllDigits l → l.foldl (fun acc c => acc * 10 + (c - 48)) a < (a + 1) * 10 ^ l.length := by
          intro l
          induction l with
          | nil => intro a _; simp
          | cons c r ih =>
            intro a h
            have hc := h.head
            have := ih (a * 10 + (c - 48)) h.tail
            rw [List.foldl_cons, List.length_cons, Nat.pow_succ]
            refine Nat.lt_of_lt_of_le this ?_
            have : a * 10 + (c - 48) + 1 ≤ (a + 1) * 10 := by omega
            calc (a * 10 + (c - 48) + 1) * 10 ^ r.length ≤ ((a + 1) * 10) * 10 ^ r.length := Nat.mul_le_mul_right _ this
              _ = (a + 1) * (10 ^ r.length * 10) := by rw [Nat.mul_assoc, Nat.mul_comm 10]
        have := key l 0 hd
        unfold digitsVal
        refine Nat.lt_of_lt_of_le this ?_
        rw [Nat.zero_add, Nat.one_mul]
        exact Nat.pow_le_pow_right (by decide) hl
theorem topM_lt {l : List Nat} {t : Int} (h : topM l = some t) : -(10 ^ 9) < t ∧ t < 10 ^ 9 := by
  unfold topM at h
  split at h
  · split at h
    · cases h
    · cases h
    · rename_i n e
      cases h
      have := wholeM_lt e
      omega
  · cases e : wholeM l with
    | none => rw [e] at h; cases h
    | some n =>
      rw [e] at h
      cases h
      have := wholeM_lt e
      show -(10 ^ 9) < (n : Int) ∧ (n : Int) < 10 ^ 9
      omega
/-- names -/
def keptL : List Str := ["let", "in", "grid", "fine", "looks", "solve", "boxes", "point", "right", "islands"]
def isLow (c : Nat) : Bool := decide (97 ≤ c ∧ c ≤ 122)
def nameM (x : Str) : Bool := !(decide (x = "") || decide (8 < x.length) || decide (x ∈ keptL)) && (tl x).all isLow
end Bx
namespace Bx
open PySem PySem.Spec PyProof.Rows L2 Dl TL NumText
section
variable {P : Program} {w : World} {K : PySem.W.Frag} {mg : Str → Option Value} {base : Heap}
/-! ### fractions -/
def sp_divisor : DSp := fun ss C Q _ => ∃ a b : Int, ss = [.int a, .int b] ∧ Q (.int (Int.gcd a b)) C
theorem abs_nat (a : Int) : (if a < 0 then -a else a) = (a.natAbs : Int) := by split <;> omega
theorem ok_divisor (T : Top w K mg) : Fc P w K mg base "divisor" 1 ["a", "b"] sp_divisor := by
  refine fc_of (N := N_divisor) T.f_divisor sc_divisor (fun _ _ _ _ _ _ us hl => match us, hl with | [_, _], _ => rfl) (fun ss C Q E q => by obtain ⟨_, _, rfl, _⟩ := q; rfl) fun bd ss Q tk hr hsp => ?_
  obtain ⟨a, b, rfl, q⟩ := hsp
  refine ss_cons (s_setv 0 (ev_abs T.b_abs (ev_v 0)) ?_ sc_divisor.nd)
  refine ss_cons (s_setv 1 (ev_abs T.b_abs (ev_v 1)) ?_ sc_divisor.nd)
  rw [abs_nat, abs_nat]
  refine ss_cons (s_while (passes_of rfl) (fun y Γ C => ∃ (x : Nat) (r : Option SV), Nat.gcd x y = Int.gcd a b ∧ C = bd.C ∧ Γ = [some (.int x), some (.int y), r]) b.natAbs ⟨a.natAbs, none, rfl, rfl, rfl⟩ fun y Γ C hW => ?_)
  obtain ⟨x, r, hg, rfl, rfl⟩ := hW
  refine goT (tv_gt (ev_v 1) ev_int) ⟨fun h => ?_, fun h => ?_⟩
  · have hy : 0 < y := by have := of_decide_eq_true h; omega
    refine ss_cons (s_setv 2 (ev_mod (ev_v 0) (ev_v 1) (by omega)) ?_ sc_divisor.nd)
    refine ss_cons (s_setv 0 (ev_v 1) ?_ sc_divisor.nd)
    refine ss_one (s_setv 1 (ev_v 2) ?_ sc_divisor.nd)
    refine ⟨x % y, Nat.mod_lt _ hy, y, some (.int ((x : Int) % (y : Int))), ?_, rfl, ?_⟩
    · rw [← hg, Nat.gcd_comm x y, Nat.gcd_rec y x, Nat.gcd_comm]
    · have e : (x : Int) % (y : Int) = ((x % y : Nat) : Int) := by omega
      rw [e]
      rfl
  · have hy : y = 0 := by have := of_decide_eq_false h; omega
    subst hy
    rw [Nat.gcd_zero_right] at hg
    refine ss_one (s_retv (ev_v 0) ?_)
    rw [hg]
    exact q
def sp_fraction (K : PySem.W.Frag) : DSp := fun ss C Q E => ∃ t b : Int, ss = [.int t, .int b] ∧ (b = 0 → E ⟨cl K "NoNumber", none⟩ C) ∧ (b ≠ 0 → b.natAbs < 2 ^ 9000 ∧ Q (.d (.tuple [.int (fracM t b).1, .int (fracM t b).2])) C)
theorem gcd_div {t b : Int} (hb : b ≠ 0) (h : b.natAbs < 2 ^ 9000) (i : Int) : CDivW i (Int.gcd t b : Int) := by
  have h0 : 0 < Int.gcd t b := Int.gcd_pos_of_ne_zero_right _ hb
  have h1 : Int.gcd t b ≤ b.natAbs := Nat.le_of_dvd (by omega) (Nat.gcd_dvd_right _ _)
  exact wide_div (by omega) (b := 9000) (by omega) (by decide) (by decide)
theorem ok_fraction (T : Top w K mg) : Fc P w K mg base "fraction" 2 ["top", "bottom"] (sp_fraction K) := by
  refine fc_of (N := N_fraction) T.f_fraction sc_fraction (fun _ _ _ _ _ _ us hl => match us, hl with | [_, _], _ => rfl) (fun ss C Q E q => by obtain ⟨_, _, rfl, _⟩ := q; rfl) fun bd ss Q tk hr hsp => ?_
  obtain ⟨t, b, rfl, q1, q2⟩ := hsp
  refine ss_cons (s_ifv (tv_eq (ev_v 1) ev_int) (fun h => ?_) fun h => ss_nil ?_)
  · exact ss_one (s_raise T.x_NoNumber rfl tk (q1 (of_decide_eq_true h)))
  have hb := of_decide_eq_false h
  obtain ⟨hs, q2⟩ := q2 hb
  unfold fracM at q2
  have fin : ∀ t' b' : Int, Int.gcd t' b' = Int.gcd t b → Q (.d (.tuple [.int (t' / (Int.gcd t b : Int)), .int (b' / (Int.gcd t b : Int))])) bd.C → SS (Rb P w K mg base N_fraction "fraction" (defScope s_fraction) bd) ((defBody s_fraction).drop 2) [some (.int t'), some (.int b'), none] bd.C { nx := fun _ C' => Q .non C', rt := Q } := fun t' b' hg q => by
    refine ss_cons (s_setv 2 (ev_call ((ok_divisor T).mono (by decide)) hr tk (av_cons (ev_v 0) (av_cons (ev_v 1) av_nil)) fun Q q => ⟨t', b', rfl, q⟩) ?_ sc_fraction.nd)
    rw [hg]
    exact ss_one (s_retv (ev_tup (ds := [.int _, .int _]) (av_cons (ev_div (ev_v 0) (ev_v 2) (gcd_div hb hs _)) (av_cons (ev_div (ev_v 1) (ev_v 2) (gcd_div hb hs _)) av_nil))) q)
  refine ss_cons (s_ifv (tv_lt (ev_v 1) ev_int) (fun h => ?_) fun h => ss_nil ?_)
  · rw [if_pos (of_decide_eq_true h)] at q2
    refine ss_cons (s_setv 0 (ev_neg (ev_v 0)) ?_ sc_fraction.nd)
    refine ss_one (s_setv 1 (ev_neg (ev_v 1)) ?_ sc_fraction.nd)
    exact fin (-t) (-b) (by rw [Int.gcd_neg, Int.neg_gcd]) q2
  · rw [if_neg (of_decide_eq_false h)] at q2
    exact fin t b rfl q2
/-! ### words -/
theorem fig_mem (c : Nat) : decide (c ∈ (("0123456789" : Str)).cps.toList) = isDig c := by
  have e : (("0123456789" : Str)).cps.toList = [48, 49, 50, 51, 52, 53, 54, 55, 56, 57] := by decide +kernel
  rw [e]
  unfold isDig
  refine decide_eq_decide.mpr ?_
  simp only [List.mem_cons, List.not_mem_nil, or_false]
  omega
theorem low_mem (c : Nat) : decide (c ∈ (("abcdefghijklmnopqrstuvwxyz" : Str)).cps.toList) = isLow c := by
  have e : (("abcdefghijklmnopqrstuvwxyz" : Str)).cps.toList = [97, 98, 99, 100, 101, 102, 103, 104, 105, 106, 107, 108, 109, 110, 111, 112, 113, 114, 115, 116, 117, 118, 119, 120, 121, 122] := by decide +kernel
  rw [e]
  unfold isLow
  refine decide_eq_decide.mpr ?_
  simp only [List.mem_cons, List.not_mem_nil, or_false]
  omega
theorem tl_get {x : Str} {i : Nat} (h : i < x.cps.size) : (tl x)[i]? = some (x.cps.getD i 0) := by
  have h2 : i < (tl x).length := by simpa [tl] using h
  rw [List.getElem?_eq_getElem h2, Array.getD_eq_getD_getElem?, Array.getElem?_eq_getElem h]
  simp [tl]
theorem all_take {l : List Nat} {p : Nat → Bool} {i c : Nat} (h : (l.take i).all p = true) (hc : l[i]? = some c) (hp : p c = true) : (l.take (i + 1)).all p = true := by
  rw [List.take_add_one, hc, List.all_append, h]
  simp [hp]
theorem all_not {l : List Nat} {p : Nat → Bool} {i c : Nat} (hc : l[i]? = some c) (hp : p c = false) : l.all p = false := by
  rw [List.all_eq_false]
  exact ⟨c, List.mem_of_getElem? hc, by rw [hp]; decide⟩
theorem str_nil_iff (x : Str) : x = "" ↔ tl x = [] := by
  constructor
  · intro e; subst e; decide +kernel
  · intro e; exact ext_tl (by rw [e]; decide +kernel)
def sp_whole_of (K : PySem.W.Frag) : DSp := fun ss C Q E => ∃ x : Str, ss = [.str x] ∧ x.length ≤ 100000 ∧ (wholeM (tl x) = none → E ⟨cl K "NoRow", none⟩ C) ∧ ∀ n, wholeM (tl x) = some n → Q (.int n) C
theorem line5 {n : Nat} (h : n ≤ 100000) : n ≤ sizeLine := Nat.le_trans h (by decide)
theorem ok_whole_of (T : Top w K mg) : Fc P w K mg base "whole_of" 1 ["figures"] (sp_whole_of K) := by
  refine fc_of (N := N_whole_of) T.f_whole_of sc_whole_of (fun _ _ _ _ _ _ us hl => match us, hl with | [_], _ => rfl) (fun ss C Q E q => by obtain ⟨_, rfl, _⟩ := q; rfl) fun bd ss Q tk hr hsp => ?_
  obtain ⟨x, rfl, hl, q1, q2⟩ := hsp
  unfold wholeM at q1 q2
  refine ss_cons (s_ifv (tv_w (wv_or (tv_eqs (ev_v 0) ev_str) fun _ => wv_or1 (tv_gt (ev_lenS T.b_len (ev_v 0) (line5 hl)) ev_int))) (fun h => ?_) fun h => ss_nil ?_)
  · refine ss_one (s_raise T.x_NoRow rfl tk (q1 ?_))
    rw [Bool.or_eq_true, decide_eq_true_eq, decide_eq_true_eq, str_nil_iff, len_tl] at h
    rw [if_pos (h.imp id fun z => by omega)]
  rw [Bool.or_eq_false_iff, decide_eq_false_iff_not, decide_eq_false_iff_not, str_nil_iff, len_tl] at h
  rw [if_neg (fun z => z.elim h.1 fun y => h.2 (by omega))] at q1 q2
  refine ss_cons (s_for (passes_of rfl) rfl (ei_str (go (ev_v 0) ⟨x, rfl, fun i Γ C => C = bd.C ∧ ((tl x).take i).all isDig = true ∧ ∃ r, Γ = [some (.str x), r], ⟨rfl, rfl, none, rfl⟩, fun i Γ C _ => trivial, fun i Γ C hi hI => ?_, fun Γ C hI => ?_⟩)))
  · obtain ⟨rfl, ha, r, rfl⟩ := hI
    refine gv_name 1 ?_ sc_whole_of.nd
    have hc := tl_get hi
    refine ss_one (s_ifv (tv_niS (ev_v 1) (ev_gstr T.v_FIGURES)) (fun hn => ?_) fun hn => ss_nil ?_)
    · rw [fig_mem] at hn
      exact ss_one (s_raise T.x_NoRow rfl tk (q1 (by rw [if_pos (all_not hc (by simpa using hn))])))
    · rw [fig_mem] at hn
      exact ⟨rfl, all_take ha hc (by simpa using hn), _, rfl⟩
  obtain ⟨rfl, ha, r, rfl⟩ := hI
  have ha' : (tl x).all isDig = true := by
    have e : x.cps.size = (tl x).length := by simp [tl]
    rw [e, List.take_length] at ha
    exact ha
  rw [if_neg (by rw [ha']; decide)] at q1 q2
  cases ht : tl x with
  | nil => exact absurd ht h.1
  | cons c cs =>
    rw [ht] at q1 q2
    refine ss_cons (s_ifv (tv_w (wv_and (tv_eqs (ev_ixS (ev_v 0) ev_int (line5 hl) (show atI (tl x) 0 = some c by rw [ht]; exact atI_zero _ _)) ev_str) fun _ => wv_and1 (tv_gt (ev_lenS T.b_len (ev_v 0) (line5 hl)) ev_int))) (fun h2 => ?_) fun h2 => ss_nil ?_)
    · rw [Bool.and_eq_true, decide_eq_true_eq, decide_eq_true_eq, len_tl, ht] at h2
      have hc : c = 48 := by
        have e := congrArg tl h2.1
        rw [show tl (("0" : Str)) = [48] by decide +kernel] at e
        exact (List.cons.inj (show [c] = [48] from e)).1
      exact ss_one (s_raise T.x_NoRow rfl tk (q1 (by rw [if_pos ⟨by rw [hc]; rfl, by omega⟩])))
    · rw [Bool.and_eq_false_iff, decide_eq_false_iff_not, decide_eq_false_iff_not, len_tl, ht] at h2
      have hn : ¬ ((c :: cs).head? = some 48 ∧ 1 < (c :: cs).length) := fun z => by
        rcases h2 with h2 | h2
        · have hc : c = 48 := Option.some.inj z.1
          exact h2 (ext_tl (by rw [hc]; decide +kernel))
        · exact h2 (by have := z.2; omega)
      rw [if_neg hn] at q2
      rw [ht] at ha'
      exact ss_one (s_retv (ev_intS T.b_int (ev_v 0) (by have := intText_digits (x := x) (by show AllDigits (tl x); rw [ht]; exact allDig.mp ha') (by show tl x ≠ []; rw [ht]; simp) (by rw [len_tl, ht]; have := h.2; rw [ht] at this; omega); rw [this]; show some ((digitsVal (tl x) : Nat) : Int) = some _; rw [ht]) (by rw [len_tl]; have := h.2; omega)) (q2 _ rfl))
end
end Bx
namespace Bx
open PySem PySem.Spec PyProof.Rows L2 Dl
theorem eqvAll_refl {α : Type} {f : α → PyData} (h : ∀ x, PyData.eqv (f x) (f x) = true) : ∀ xs : List α, PyData.eqvAll (xs.map f) (xs.map f) = true
  | [] => eqvAll_nil
  | x :: xs => by rw [List.map_cons, eqvAll_cons, h, eqvAll_refl h xs]; rfl
theorem kit_ii : kitB "int" "int" = some true := by decide +kernel
theorem kit_ib : kitB "int" "bool" = some false := by decide +kernel
theorem kit_tt : kitB "tuple" "tuple" = some true := by decide +kernel
theorem kit_ll : kitB "list" "list" = some true := by decide +kernel
theorem kit_ss : kitB "str" "str" = some true := by decide +kernel
theorem cdiv_small {i j : Int} (h : 0 < j) (h2 : j < 2 ^ 64) : CDivW i j := wide_div h (b := 64) (by omega) (by decide) (by decide)
section
variable {P : Program} {w : World} {K : PySem.W.Frag} {mg : Str → Option Value} {base : Heap}
/-- the k-th cell, nought behind the last -/
def cellAt (ns : List Int) (k : Int) : Int := ns.getD k.toNat 0
def sp_cell_at : DSp := fun ss C Q _ => ∃ (ns : List Int) (k : Int), ss = [.d (.list (ns.map .int)), .int k] ∧ 0 ≤ k ∧ Q (.int (cellAt ns k)) C
theorem ok_cell_at (T : Top w K mg) : Fc P w K mg base "_law_cell_at" 1 ["_law_script", "_law_k"] sp_cell_at := by
  refine fc_of (N := N__law_cell_at) T.f__law_cell_at sc__law_cell_at (fun _ _ _ _ _ _ us hl => match us, hl with | [_, _], _ => rfl) (fun ss C Q E q => by obtain ⟨_, _, rfl, _⟩ := q; rfl) fun bd ss Q tk hr hsp => ?_
  obtain ⟨ns, k, rfl, h0, q⟩ := hsp
  refine ss_cons (s_ifv (tv_lt (ev_v 1) (ev_lenL T.b_len (ev_v 0))) (fun h => ?_) fun h => ss_nil ?_)
  · have hk := of_decide_eq_true h
    simp only [List.length_map] at hk
    refine ss_one (s_retv (ev_ixL (ev_v 0) (ev_v 1) (atI_map .int (atI_lt h0 hk))) ?_)
    have e : cellAt ns k = ns[k.toNat]'(by omega) := by
      unfold cellAt
      rw [List.getD_eq_getElem?_getD, List.getElem?_eq_getElem (by omega)]
      rfl
    rw [e] at q
    exact q
  · have hk := of_decide_eq_false h
    simp only [List.length_map] at hk
    refine ss_one (s_retv ev_int ?_)
    have e : cellAt ns k = 0 := by
      unfold cellAt
      rw [List.getD_eq_getElem?_getD, List.getElem?_eq_none (by omega)]
      rfl
    rw [e] at q
    exact q
/-- of a whole number -/
def sp_whole : DSp := fun ss C Q _ => ∃ (i : Int), ss = [.int i] ∧ Q (.bl true) C
theorem ok_whole (T : Top w K mg) : Fc P w K mg base "_law_whole" 1 ["_law_found"] sp_whole := by
  refine fc_of (N := N__law_whole) T.f__law_whole sc__law_whole (fun _ _ _ _ _ _ us hl => match us, hl with | [_], _ => rfl) (fun ss C Q E q => by obtain ⟨_, rfl, _⟩ := q; rfl) fun bd ss Q tk hr hsp => ?_
  obtain ⟨i, rfl, q⟩ := hsp
  exact ss_one (s_retv (ev_and (ev_isTy (n := "int") (d := .int i) T.b_isinstance T.b_int (by decide +kernel) (ev_v 0) dv_d kit_ii) fun _ => ev_one (ev_not (ev_isTy (n := "bool") (d := .int i) T.b_isinstance T.b_bool (by decide +kernel) (ev_v 0) dv_d kit_ib))) q)
end
end Bx
namespace Bx
open PySem PySem.Spec PyProof.Rows L2 Dl TL NumText
theorem tl_cut1 (x : Str) : tl (cutS x none (some 1)) = (tl x).take 1 := by
  unfold cutS
  show (List.take (HT.sIx x.length x.length (some 1) - HT.sIx x.length 0 none) (List.drop (HT.sIx x.length 0 none) (tl x))) = _
  rw [HT.sIx_none, show HT.sIx x.length x.length (some 1) = min 1 x.length from HT.sIx_nat x.length x.length 1, List.drop_zero, Nat.sub_zero, len_tl]
  cases tl x with
  | nil => simp
  | cons c r => rw [List.length_cons, show min 1 (r.length + 1) = 1 by omega]
theorem tl_cut2 (x : Str) : tl (cutS x (some 1) none) = (tl x).drop 1 := by
  unfold cutS
  show (List.take (HT.sIx x.length x.length none - HT.sIx x.length 0 (some 1)) (List.drop (HT.sIx x.length 0 (some 1)) (tl x))) = _
  rw [HT.sIx_none, show HT.sIx x.length 0 (some 1) = min 1 x.length from HT.sIx_nat x.length 0 1, len_tl]
  cases tl x with
  | nil => simp
  | cons c r =>
    rw [List.length_cons, show min 1 (r.length + 1) = 1 by omega]
    show List.take (r.length + 1 - 1) r = r
    rw [Nat.add_sub_cancel, List.take_length]
theorem split_strokes (x : Str) : (Txt.split x "/").map tl = strokes (tl x) := by
  have e : tl (("/" : Str)) = [47] := by decide +kernel
  rw [split_spl x "/" (by rw [e]; simp) (kind_ok (by decide +kernel)), e]
  rfl
theorem dash_iff (x : Str) : x = "-" ↔ tl x = [45] := by
  constructor
  · intro e; subst e; decide +kernel
  · intro e; exact ext_tl (by rw [e]; decide +kernel)
section
variable {P : Program} {w : World} {K : PySem.W.Frag} {mg : Str → Option Value} {base : Heap}
def sp_number_of (K : PySem.W.Frag) : DSp := fun ss C Q E => ∃ x : Str, ss = [.str x] ∧ x.length ≤ 100000 ∧ (numM (tl x) = none → E ⟨cl K "NoRow", none⟩ C) ∧ ∀ t b, numM (tl x) = some (t, b) → Q (.d (.tuple [.int t, .int b])) C
theorem strokes_len {l p : List Nat} (h : p ∈ strokes l) : p.length ≤ l.length := by
  have key : ∀ (l acc p : List Nat), p ∈ spl [47] 0 acc l → p.length ≤ acc.length + l.length := by
    intro l
    induction l with
    | nil => intro acc p h; rw [spl_nil] at h; simp at h; subst h; simp
    | cons c r ih =>
      intro acc p h
      by_cases hc : c = 47
      · rw [spl_hit (by rw [pre47]; exact decide_eq_true hc)] at h
        rcases List.mem_cons.mp h with rfl | h
        · simp
        · have := ih [] p h
          simp at this ⊢
          omega
      · rw [spl_miss (by rw [pre47]; exact decide_eq_false hc)] at h
        have := ih _ p h
        simp at this ⊢
        omega
  have := key l [] p h
  simpa using this
theorem sh_pair (a b : Int) : SeqAt.shaped (.tuple [.int a, .int b]) = true := (sh_tup (n := 0) (shAll_cons (sh_int _) (shAll_cons (sh_int _) shAll_nil))).ok
theorem eqv_pair (a b c d : Int) : PyData.eqv (.tuple [.int a, .int b]) (.tuple [.int c, .int d]) = decide ((a, b) = (c, d)) := by
  rw [eqv_tuple, eqvAll_cons, eqvAll_cons, eqvAll_nil, eqv_int, eqv_int, Bool.and_true]
  by_cases h1 : a = c
  · by_cases h2 : b = d
    · subst h1 h2; simp
    · simp [h1, h2]
  · simp [h1]
theorem ok_number_of (T : Top w K mg) : Fc P w K mg base "number_of" 3 ["word"] (sp_number_of K) := by
  refine fc_of (N := N_number_of) T.f_number_of sc_number_of (fun _ _ _ _ _ _ us hl => match us, hl with | [_], _ => rfl) (fun ss C Q E q => by obtain ⟨_, rfl, _⟩ := q; rfl) fun bd ss Q tk hr hsp => ?_
  obtain ⟨x, rfl, hl, q1, q2⟩ := hsp
  have W := (ok_whole_of (P := P) (base := base) T).mono (show 1 ≤ 2 by decide)
  have hsp := split_strokes x
  have hm : ∀ p ∈ Txt.split x "/", p.length ≤ 100000 := fun p hp => by
    have h1 : tl p ∈ strokes (tl x) := by rw [← hsp]; exact List.mem_map_of_mem hp
    have := strokes_len h1
    rw [len_tl] at hl ⊢
    omega
  have hne : Txt.split x "/" ≠ [] := fun e => by rw [e] at hsp; exact strokes_ne _ hsp.symm
  refine ss_cons (s_setv 1 (ev_split (ev_v 0) ev_str (by decide +kernel) (Nat.le_trans (Nat.add_le_add_right hl 2) (by decide))) ?_ sc_number_of.nd)
  unfold numM at q1 q2
  rw [← hsp] at q1 q2
  generalize Txt.split x "/" = ps at hm hne q1 q2
  cases ps with
  | nil => exact absurd rfl hne
  | cons p0 ps =>
    have h0 := hm p0 List.mem_cons_self
    refine ss_cons (s_ifv (tv_gt (ev_lenL T.b_len (ev_v 1)) ev_int) (fun h => ?_) fun h => ss_nil ?_)
    · refine ss_one (s_raise T.x_NoRow rfl tk (q1 ?_))
      have h := of_decide_eq_true h
      simp only [List.length_map, List.length_cons] at h
      match ps, h with
      | _ :: _ :: _, _ => rfl
    have h := of_decide_eq_false h
    simp only [List.length_map, List.length_cons] at h
    -- behind the top
    have fin : ∀ (t : Int), topM (tl p0) = some t → SS (Rb P w K mg base N_number_of "number_of" (defScope s_number_of) bd) ((defBody s_number_of).drop 3) [some (.str x), some (.d (.list ((p0 :: ps).map .str))), some (.int t), none] bd.C { nx := fun _ C' => Q .non C', rt := Q } := fun t ht => by
      cases ps with
      | nil =>
        refine ss_cons (s_yes (tv_eq (ev_lenL T.b_len (ev_v 1)) ev_int) rfl ?_)
        exact ss_one (s_retv (ev_tup (ds := [.int t, .int 1]) (av_cons (ev_v 2) (av_cons ev_int av_nil))) (q2 t 1 (by rw [List.map_cons, List.map_nil]; show (topM (tl p0)).map _ = _; rw [ht]; rfl)))
      | cons p1 ps =>
        cases ps with
        | cons p2 ps => simp only [List.length_cons] at h; omega
        | nil =>
          have h1 := hm p1 (List.mem_cons_of_mem _ List.mem_cons_self)
          refine ss_cons (s_no (tv_eq (ev_lenL T.b_len (ev_v 1)) ev_int) rfl (ss_nil ?_))
          refine ss_cons (s_set 3 (ee_call W hr tk (goA (av_cons (ev_ixL (ev_v 1) ev_int (d := .str p1) rfl) av_nil) ⟨p1, rfl, h1, fun hn => ?_, fun b hb => ?_⟩)) sc_number_of.nd)
          · refine q1 ?_
            show (match topM (tl p0), wholeM (tl p1) with | some t, some b => _ | _, _ => none) = none
            rw [ht, hn]
          · have hb9 := wholeM_lt hb
            have e : (match topM (tl p0), wholeM (tl p1) with | some t, some b => if (b : Int) < 2 ∨ fracM t b ≠ (t, (b : Int)) then (none : Option (Int × Int)) else some (t, b) | _, _ => none) = if (b : Int) < 2 ∨ fracM t b ≠ (t, (b : Int)) then none else some (t, (b : Int)) := by rw [ht, hb]
            have q1' : (if (b : Int) < 2 ∨ fracM t b ≠ (t, (b : Int)) then (none : Option (Int × Int)) else some (t, (b : Int))) = none → bd.er ⟨cl K "NoRow", none⟩ bd.C := fun z => q1 (e.trans z)
            have q2' : (if (b : Int) < 2 ∨ fracM t b ≠ (t, (b : Int)) then (none : Option (Int × Int)) else some (t, (b : Int))) = some (t, (b : Int)) → Q (.d (.tuple [.int t, .int b])) bd.C := fun z => q2 t b (e.trans z)
            refine ss_cons (s_ifv (tv_w (wv_or (tv_lt (ev_v 3) ev_int) fun hlt => wv_or1 (tv_neV (room64 hr) (ev_call ((ok_fraction T).mono (by decide)) hr tk (av_cons (ev_v 2) (av_cons (ev_v 3) av_nil)) fun Q q => ⟨t, b, rfl, fun z => by have := of_decide_eq_false hlt; omega, fun _ => ⟨Nat.lt_of_lt_of_le (show (b : Int).natAbs < 10 ^ 9 from hb9) (Nat.le_trans (show 10 ^ 9 ≤ 2 ^ 30 by decide) (Nat.pow_le_pow_right (by decide) (by decide))), q⟩⟩) (ev_tup (ds := [.int t, .int b]) (av_cons (ev_v 2) (av_cons (ev_v 3) av_nil))) dv_d dv_d (sh_pair _ _) (sh_pair _ _)))) (fun hh => ?_) fun hh => ss_nil ?_)
            · refine ss_one (s_raise T.x_NoRow rfl tk (q1' ?_))
              rw [eqv_pair, Bool.or_eq_true, decide_eq_true_eq, Bool.not_eq_true', decide_eq_false_iff_not] at hh
              rw [if_pos hh]
            · rw [eqv_pair, Bool.or_eq_false_iff, decide_eq_false_iff_not, Bool.not_eq_false', decide_eq_true_eq] at hh
              refine ss_one (s_retv (ev_tup (ds := [.int t, .int b]) (av_cons (ev_v 2) (av_cons (ev_v 3) av_nil))) (q2' ?_))
              rw [if_neg fun z => z.elim hh.1 fun y => y hh.2]
    have bad : topM (tl p0) = none → bd.er ⟨cl K "NoRow", none⟩ bd.C := fun hn => q1 (by
      cases ps with
      | nil => show (topM (tl p0)).map _ = none; rw [hn]; rfl
      | cons p1 ps =>
        cases ps with
        | nil => show (match topM (tl p0), wholeM (tl p1) with | some t, some b => _ | _, _ => none) = none; rw [hn]
        | cons p2 ps => simp only [List.length_cons] at h; omega)
    unfold topM at fin bad
    refine ss_cons (s_ifv (tv_eqs (ev_slS (ev_ixL (ev_v 1) ev_int (d := .str p0) (atI_zero _ _)) (line5 h0) pv_none (pv_some ev_int)) ev_str) (fun hd => ?_) fun hd => ?_)
    · have hd := of_decide_eq_true hd
      rw [dash_iff, tl_cut1] at hd
      rw [if_pos hd] at bad
      have hl2 : (cutS p0 (some 1) none).length ≤ 100000 := by rw [len_tl, tl_cut2, List.length_drop]; rw [len_tl] at h0; omega
      have cal : ∀ (Q' : SV → Cells → Prop), (∀ n, wholeM ((tl p0).drop 1) = some n → Q' (.int (-(n : Int))) bd.C) → EE (Rb P w K mg base N_number_of "number_of" (defScope s_number_of) bd) (match (defBody s_number_of).getD 2 (.Pass ⟨0, 0, 0, 0⟩) with | .If _ (.Assign _ e _ :: _) _ _ => e | _ => .Name "x" ⟨0, 0, 0, 0⟩) [some (.str x), some (.d (.list ((p0 :: ps).map .str))), none, none] bd.C Q' := fun Q' hQ => by
        refine ee_neg (ee_call W hr tk (goA (av_cons (ev_slS (ev_ixL (ev_v 1) ev_int (d := .str p0) (atI_zero _ _)) (line5 h0) (pv_some ev_int) pv_none) av_nil) ⟨_, rfl, hl2, fun hn => bad ?_, fun n hn => ⟨n, rfl, hQ n ?_⟩⟩))
        · rw [tl_cut2] at hn; rw [hn]
        · rw [tl_cut2] at hn; exact hn
      refine ss_cons (s_set 2 (cal _ fun n hn => ?_) sc_number_of.nd)
      rw [hn] at bad
      cases n with
      | zero =>
        refine ss_one (s_yes (tv_eq (ev_v 2) ev_int) rfl (ss_one (s_raise T.x_NoRow rfl tk (bad rfl))))
      | succ n =>
        refine ss_one (s_no (tv_eq (ev_v 2) ev_int) (decide_eq_false (by omega)) (ss_nil ?_))
        exact fin _ (by rw [if_pos hd, hn])
    · have hd := of_decide_eq_false hd
      rw [dash_iff, tl_cut1] at hd
      rw [if_neg hd] at bad
      refine ss_one (s_set 2 (ee_call W hr tk (goA (av_cons (ev_ixL (ev_v 1) ev_int (d := .str p0) (atI_zero _ _)) av_nil) ⟨p0, rfl, h0, fun hn => bad (by rw [hn]; rfl), fun n hn => ?_⟩)) sc_number_of.nd)
      exact fin n (by rw [if_neg hd, hn]; rfl)
/-- written(a) -/
def strN (n : Int) : Str := Str.ofString (toString n)
def wrM (t b : Int) : Str := if b = 1 then strN t else strN t ++ "/" ++ strN b
def sp_written : DSp := fun ss C Q _ => ∃ t b : Int, ss = [.d (.tuple [.int t, .int b])] ∧ t.natAbs.log2 < 1920 ∧ b.natAbs.log2 < 1920 ∧ (strN t).length ≤ 1000 ∧ (strN b).length ≤ 1000 ∧ Q (.str (wrM t b)) C
theorem ok_written (T : Top w K mg) : Fc P w K mg base "written" 1 ["a"] sp_written := by
  refine fc_of (N := N_written) T.f_written sc_written (fun _ _ _ _ _ _ us hl => match us, hl with | [_], _ => rfl) (fun ss C Q E q => by obtain ⟨_, _, rfl, _⟩ := q; rfl) fun bd ss Q tk hr hsp => ?_
  obtain ⟨t, b, rfl, ht, hb, lt, lb, q⟩ := hsp
  have lsl : (("/" : Str)).length = 1 := by decide +kernel
  unfold wrM at q
  refine ss_cons (s_ifv (tv_eq (ev_ixT (ev_v 0) ev_int rfl) ev_int) (fun h => ?_) fun h => ss_nil ?_)
  · rw [if_pos (of_decide_eq_true h)] at q
    exact ss_one (s_retv (ev_strI T.b_str (ev_ixT (ev_v 0) ev_int rfl) ht) q)
  · rw [if_neg (of_decide_eq_false h)] at q
    have l2 : (strN t ++ "/" : Str).length = (strN t).length + 1 := by rw [len_tl, tl_append, List.length_append, ← len_tl, ← len_tl, lsl]
    exact ss_one (s_retv (ev_cat (ev_cat (ev_strI T.b_str (ev_ixT (ev_v 0) ev_int rfl) ht) ev_str (by show (strN t).length + _ ≤ _; rw [lsl]; exact line5 (by omega))) (ev_strI T.b_str (ev_ixT (ev_v 0) ev_int rfl) hb) (by show (strN t ++ "/" : Str).length + (strN b).length ≤ _; rw [l2]; exact line5 (by omega))) q)
end
end Bx
namespace Bx
open PySem PySem.Spec PyProof.Rows L2 Dl TL NumText
/-! ### numbers as texts, back and forth -/
theorem tl_strN (n : Nat) : tl (strN n) = numL n := tl_num n
theorem strN_neg (n : Nat) : strN (Int.negSucc n) = "-" ++ strN ((n + 1 : Nat) : Int) := by
  refine ext_tl ?_
  rw [tl_append]
  unfold strN
  have e : toString (Int.negSucc n) = "-" ++ toString ((n + 1 : Nat) : Int) := rfl
  rw [e]
  have d : tl (("-" : Str)) = [45] := by decide +kernel
  rw [d]
  show (Str.ofString ("-" ++ toString ((n + 1 : Nat) : Int))).cps.toList = [45] ++ (Str.ofString (toString ((n + 1 : Nat) : Int))).cps.toList
  rw [signs_ofString, signs_ofString, String.toList_append, List.map_append]
  rfl
/-- the signs of a whole number -/
def intL (t : Int) : List Nat := if t < 0 then 45 :: numL t.natAbs else numL t.natAbs
theorem tl_strI : ∀ t : Int, tl (strN t) = intL t
  | .ofNat n => by
    unfold intL
    rw [if_neg (by have : (0 : Int) ≤ Int.ofNat n := Int.natCast_nonneg n; omega)]
    exact tl_strN n
  | .negSucc n => by
    have d : tl (("-" : Str)) = [45] := by decide +kernel
    rw [strN_neg, tl_append, d, tl_strN]
    unfold intL
    rw [if_pos (Int.negSucc_lt_zero n)]
    rfl
theorem intL_len {t : Int} {k : Nat} (hk : 0 < k) (h : t.natAbs < 10 ^ k) : (intL t).length ≤ k + 1 := by
  have := numL_len hk h
  unfold intL
  split
  · rw [List.length_cons]; omega
  · omega
theorem all_num (n : Nat) : (numL n).all isDig = true := allDig.mpr (numL_digits n)
theorem len_lt_pow : ∀ k n : Nat, 10 ^ k ≤ n → k < (numL n).length
  | 0, n, _ => List.length_pos_iff.mpr (numL_ne n)
  | k + 1, n, h => by
    have h1 : 10 ≤ n := Nat.le_trans (by rw [Nat.pow_succ]; have := Nat.pow_pos (n := k) (show 0 < 10 by decide); omega) h
    rw [numL_step h1, List.length_append]
    have := len_lt_pow k (n / 10) (by rw [Nat.pow_succ] at h; omega)
    simp only [List.length_cons, List.length_nil]
    omega
theorem num_head : ∀ n : Nat, 0 < n → ∃ c r, numL n = c :: r ∧ c ≠ 48 := by
  intro n
  induction n using Nat.strongRecOn with
  | _ n ih =>
    intro hn
    by_cases h : n < 10
    · exact ⟨48 + n, [], numL_lt h, by omega⟩
    · obtain ⟨c, r, e, hc⟩ := ih (n / 10) (by omega) (by omega)
      exact ⟨c, r ++ [48 + n % 10], by rw [numL_step (by omega), e]; rfl, hc⟩
theorem whole_num {n : Nat} (h : n < 10 ^ 9) : wholeM (numL n) = some n := by
  unfold wholeM
  rw [if_neg (fun z => z.elim (numL_ne n) fun y => by have := numL_len (show 0 < 9 by decide) h; omega), if_neg (by rw [all_num]; decide), numL_val, if_neg]
  intro z
  by_cases h0 : n = 0
  · subst h0
    have e : numL 0 = [48] := numL_lt (by decide)
    rw [e] at z
    exact absurd z.2 (by decide)
  · obtain ⟨c, r, e, hc⟩ := num_head n (by omega)
    rw [e] at z
    exact hc (Option.some.inj z.1)
theorem whole_num_no {n : Nat} (h : 10 ^ 9 ≤ n) : wholeM (numL n) = none := by
  unfold wholeM
  rw [if_pos (.inr (len_lt_pow 9 n h))]
theorem whole_zero (n : Nat) : wholeM (48 :: numL n) = none := by
  unfold wholeM
  split
  · rfl
  split
  · rfl
  rw [if_pos ⟨rfl, by rw [List.length_cons]; have := List.length_pos_iff.mpr (numL_ne n); omega⟩]
theorem whole_nil : wholeM [] = none := rfl
theorem whole_bad {l : List Nat} {c : Nat} (h : c ∈ l) (hc : isDig c = false) : wholeM l = none := by
  unfold wholeM
  split
  · rfl
  rw [if_pos]
  rw [List.all_eq_false]
  exact ⟨c, h, by rw [hc]; decide⟩
theorem num_dash {n : Nat} : ¬ (numL n).take 1 = [45] := fun e => by
  have : (45 : Nat) ∈ numL n := List.mem_of_mem_take (i := 1) (by rw [e]; exact List.mem_singleton_self _)
  exact numL_free (.inl (by decide)) this
theorem top_num {n : Nat} (h : n < 10 ^ 9) : topM (numL n) = some (n : Int) := by
  unfold topM
  rw [if_neg num_dash, whole_num h]
  rfl
theorem topM_dash (l : List Nat) : topM (45 :: l) = match wholeM l with | none => none | some 0 => none | some (n + 1) => some (-((n + 1 : Nat) : Int)) := rfl
theorem top_int {t : Int} (h : t.natAbs < 10 ^ 9) : topM (intL t) = some t := by
  unfold intL
  split
  · rename_i hn
    rw [topM_dash]
    rw [whole_num h]
    have hp : 0 < t.natAbs := by omega
    generalize e : t.natAbs = m at hp ⊢
    cases m with
    | zero => omega
    | succ m => show some (-((m + 1 : Nat) : Int)) = some t; rw [← e]; congr 1; omega
  · rw [top_num h]; congr 1; omega
theorem top_int_no {t : Int} (h : 10 ^ 9 ≤ t.natAbs) : topM (intL t) = none := by
  unfold intL
  split
  · rw [topM_dash]
    rw [whole_num_no h]
  · unfold topM
    rw [if_neg num_dash, whole_num_no h]
    rfl
theorem num_free47 (n : Nat) : 47 ∉ numL n := numL_free (.inl (by decide))
theorem int_free47 (t : Int) : 47 ∉ intL t := by
  unfold intL
  split
  · intro z
    rcases List.mem_cons.mp z with z | z
    · exact absurd z (by decide)
    · exact num_free47 _ z
  · exact num_free47 _
theorem numM_one {l : List Nat} (h : 47 ∉ l) : numM l = (topM l).map fun t => (t, 1) := by unfold numM; rw [strokes_one h]
theorem numM_two {l r : List Nat} (h : 47 ∉ l) (h2 : 47 ∉ r) : numM (l ++ 47 :: r) = match topM l, wholeM r with
    | some t, some b => if (b : Int) < 2 ∨ fracM t b ≠ (t, (b : Int)) then none else some (t, (b : Int))
    | _, _ => none := by
  unfold numM
  rw [strokes_two h h2] <;> rfl
theorem num_topless {l r : List Nat} (h : 47 ∉ l) (h2 : 47 ∉ r) (ht : topM l = none) : numM (l ++ 47 :: r) = none := by rw [numM_two h h2, ht]
theorem num_botless {l r : List Nat} (h : 47 ∉ l) (h2 : 47 ∉ r) (ht : wholeM r = none) : numM (l ++ 47 :: r) = none := by
  rw [numM_two h h2, ht]
  cases topM l <;> rfl
/-- the signs of a fraction -/
def fracL (t b : Int) : List Nat := if b = 1 then intL t else intL t ++ 47 :: intL b
theorem tl_wr (t b : Int) : tl (wrM t b) = fracL t b := by
  have d : tl (("/" : Str)) = [47] := by decide +kernel
  unfold wrM fracL
  split
  · exact tl_strI t
  · rw [tl_append, tl_append, tl_strI, tl_strI, d, List.append_assoc]
    rfl
theorem frac_low {t b : Int} (hb : 0 < b) (hg : Int.gcd t b = 1) : fracM t b = (t, b) := by
  unfold fracM
  rw [if_neg (by omega), hg]
  show (t / 1, b / 1) = _
  rw [Int.ediv_one, Int.ediv_one]
theorem intL_pos {b : Int} (hb : 0 ≤ b) : intL b = numL b.natAbs := by unfold intL; rw [if_neg (by omega)]
theorem num_written {t b : Int} (ht : t.natAbs < 10 ^ 9) (hb : 0 < b) (hb9 : b.natAbs < 10 ^ 9) (hg : Int.gcd t b = 1) : numM (fracL t b) = some (t, b) := by
  unfold fracL
  split
  · rename_i e
    rw [numM_one (int_free47 t), top_int ht, e]
    rfl
  · rename_i e
    rw [intL_pos (b := b) (by omega), numM_two (int_free47 t) (num_free47 _), top_int ht, whole_num hb9]
    have eb : ((b.natAbs : Nat) : Int) = b := by omega
    show (if ((b.natAbs : Nat) : Int) < 2 ∨ _ then _ else _) = _
    rw [eb, if_neg]
    intro z
    rcases z with z | z
    · omega
    · exact z (frac_low hb hg)
/-- the signs of what writes a number -/
def okSign (c : Nat) : Bool := isDig c || c == 45 || c == 47
theorem whole_sign {l : List Nat} {c : Nat} (h : c ∈ l) (hc : okSign c = false) : wholeM l = none := whole_bad h (by
  cases e : isDig c with
  | false => rfl
  | true => unfold okSign at hc; rw [e] at hc; cases hc)
theorem top_sign {l : List Nat} {c : Nat} (h : c ∈ l) (hc : okSign c = false) : topM l = none := by
  unfold topM
  split
  · rename_i hd
    have : c ∈ l.drop 1 := by
      cases l with
      | nil => cases h
      | cons d r =>
        rcases List.mem_cons.mp h with rfl | h
        · have e : c = 45 := (List.cons.inj (show [c] = [45] from hd)).1
          rw [e] at hc
          exact absurd hc (by decide)
        · exact h
    rw [whole_sign this hc]
  · rw [whole_sign h hc]; rfl
theorem strokes_has : ∀ (l acc : List Nat) (c : Nat), c ≠ 47 → c ∈ acc ++ l → ∃ p ∈ spl [47] 0 acc l, c ∈ p
  | [], acc, c, _, h => ⟨acc, by rw [spl_nil]; exact List.mem_singleton_self _, by rw [List.append_nil] at h; exact h⟩
  | d :: r, acc, c, hc, h => by
    by_cases hd : d = 47
    · rw [spl_hit (by rw [pre47]; exact decide_eq_true hd)]
      rcases List.mem_append.mp h with h | h
      · exact ⟨acc, List.mem_cons_self, h⟩
      · rcases List.mem_cons.mp h with e | h
        · exact absurd (e.trans hd) hc
        · obtain ⟨p, hp, hcp⟩ := strokes_has r [] c hc (by rw [List.nil_append]; exact h)
          exact ⟨p, List.mem_cons_of_mem _ hp, hcp⟩
    · rw [spl_miss (by rw [pre47]; exact decide_eq_false hd)]
      refine strokes_has r (acc ++ [d]) c hc ?_
      rw [List.append_assoc]
      exact h
theorem num_sign {l : List Nat} {c : Nat} (h : c ∈ l) (hc : okSign c = false) : numM l = none := by
  have h47 : c ≠ 47 := fun e => by rw [e] at hc; exact absurd hc (by decide)
  obtain ⟨p, hp, hcp⟩ := strokes_has l [] c h47 (by rw [List.nil_append]; exact h)
  unfold numM
  have hp : p ∈ strokes l := hp
  generalize strokes l = ps at hp
  match ps, hp with
  | [a], hp => rw [List.mem_singleton.mp hp] at hcp; show (topM a).map _ = none; rw [top_sign hcp hc]; rfl
  | [a, b], hp =>
    rcases List.mem_cons.mp hp with e | hp
    · rw [e] at hcp; show (match topM a, wholeM b with | some t, some b => _ | _, _ => none) = none; rw [top_sign hcp hc]
    · rw [List.mem_singleton.mp hp] at hcp
      show (match topM a, wholeM b with | some t, some b => _ | _, _ => none) = none
      rw [whole_sign hcp hc]
      cases topM a <;> rfl
  | _ :: _ :: _ :: _, _ => rfl
/-! ### what writes no number -/
theorem bad_zero (n : Nat) : numM (48 :: numL n) = none := by
  rw [numM_one fun z => by
    rcases List.mem_cons.mp z with z | z
    · exact absurd z (by decide)
    · exact num_free47 _ z]
  unfold topM
  rw [if_neg (by intro z; exact absurd (List.cons.inj (show [48] = [45] from z)).1 (by decide)), whole_zero]
  rfl
theorem bad_dzero (n : Nat) : numM (45 :: 48 :: numL n) = none := by
  rw [numM_one fun z => by
    rcases List.mem_cons.mp z with z | z
    · exact absurd z (by decide)
    rcases List.mem_cons.mp z with z | z
    · exact absurd z (by decide)
    · exact num_free47 _ z]
  rw [topM_dash]
  rw [whole_zero]
  rfl
theorem bad_bot {t : Int} {r : List Nat} (h2 : 47 ∉ r) (h : wholeM r = none ∨ wholeM r = some 0 ∨ wholeM r = some 1) : numM (intL t ++ 47 :: r) = none := by
  rw [numM_two (int_free47 t) h2]
  rcases h with h | h | h
  · rw [h]; cases topM (intL t) <;> rfl
  · rw [h]; cases topM (intL t) <;> rfl
  · rw [h]; cases topM (intL t) <;> rfl
theorem bad_common {t b k : Int} (hb : 0 < b) (hk : 2 ≤ k) (hg : Int.gcd t b = 1) : numM (intL (t * k) ++ 47 :: intL (b * k)) = none := by
  have hbk : 0 < b * k := Int.mul_pos hb (by omega)
  rw [intL_pos (b := b * k) (by omega), numM_two (int_free47 _) (num_free47 _)]
  by_cases h9 : (b * k).natAbs < 10 ^ 9
  · rw [whole_num h9]
    by_cases ht : (t * k).natAbs < 10 ^ 9
    · rw [top_int ht]
      have eb : (((b * k).natAbs : Nat) : Int) = b * k := by omega
      have ek : (Int.gcd (t * k) (b * k) : Int) = k := by
        rw [Int.gcd_mul_right t k b, hg, Nat.one_mul]
        omega
      have hne : fracM (t * k) (b * k) ≠ (t * k, b * k) := fun e => by
        unfold fracM at e
        rw [if_neg (by omega), ek, Int.mul_ediv_cancel _ (by omega), Int.mul_ediv_cancel _ (by omega)] at e
        have e2 : b = b * k := (Prod.mk.inj e).2
        have : b * 2 ≤ b * k := Int.mul_le_mul_of_nonneg_left hk (by omega)
        omega
      show (if (((b * k).natAbs : Nat) : Int) < 2 ∨ fracM (t * k) (((b * k).natAbs : Nat) : Int) ≠ (t * k, (((b * k).natAbs : Nat) : Int)) then none else _) = _
      rw [eb, if_pos (.inr hne)]
    · rw [top_int_no (by omega)]
  · rw [whole_num_no (by omega)]
    cases topM (intL (t * k)) <;> rfl
theorem bad_great {n : Nat} (h : 10 ^ 9 ≤ n) : numM (numL n) = none ∧ numM (45 :: numL n) = none ∧ numM (49 :: 47 :: numL n) = none := by
  refine ⟨?_, ?_, num_botless (l := [49]) (fun z => by cases z with | tail _ z => cases z) (num_free47 _) (whole_num_no h)⟩
  · rw [numM_one (num_free47 _)]
    unfold topM
    rw [if_neg num_dash, whole_num_no h]
    rfl
  · rw [numM_one fun z => by
      rcases List.mem_cons.mp z with z | z
      · exact absurd z (by decide)
      · exact num_free47 _ z]
    rw [topM_dash]
    rw [whole_num_no h]
    rfl
theorem bad_odd (n : Nat) : numM (47 :: numL n) = none ∧ numM (numL n ++ [47]) = none :=
  ⟨num_topless (l := []) (fun z => nomatch z) (num_free47 _) rfl, num_botless (r := []) (num_free47 _) (fun z => nomatch z) rfl⟩
end Bx
namespace Bx
open PySem PySem.Spec PyProof.Rows L2 Dl TL NumText
section
variable {P : Program} {w : World} {K : PySem.W.Frag} {mg : Str → Option Value} {base : Heap}
/-- law: the greatest common part of two numbers, none below nought -/
def sp_ldivisor : DSp := fun ss C Q _ => ∃ a b : Nat, ss = [.int a, .int b] ∧ Q (.int (Nat.gcd a b)) C
theorem ok_ldivisor (T : Top w K mg) : Fc P w K mg base "_law_divisor" 1 ["_law_a", "_law_b"] sp_ldivisor := by
  refine fc_of (N := N__law_divisor) T.f__law_divisor sc__law_divisor (fun _ _ _ _ _ _ us hl => match us, hl with | [_, _], _ => rfl) (fun ss C Q E q => by obtain ⟨_, _, rfl, _⟩ := q; rfl) fun bd ss Q tk hr hsp => ?_
  obtain ⟨a, b, rfl, q⟩ := hsp
  refine ss_cons (s_while (passes_of rfl) (fun y Γ C => ∃ (x : Nat) (r : Option SV), Nat.gcd x y = Nat.gcd a b ∧ C = bd.C ∧ Γ = [some (.int x), some (.int y), r]) b ⟨a, none, rfl, rfl, rfl⟩ fun y Γ C hW => ?_)
  obtain ⟨x, r, hg, rfl, rfl⟩ := hW
  refine goT (tv_gt (ev_v 1) ev_int) ⟨fun h => ?_, fun h => ?_⟩
  · have hy : 0 < y := by have := of_decide_eq_true h; omega
    refine ss_cons (s_setv 2 (ev_mod (ev_v 0) (ev_v 1) (by omega)) ?_ sc__law_divisor.nd)
    refine ss_cons (s_setv 0 (ev_v 1) ?_ sc__law_divisor.nd)
    refine ss_one (s_setv 1 (ev_v 2) ?_ sc__law_divisor.nd)
    refine ⟨x % y, Nat.mod_lt _ hy, y, some (.int ((x : Int) % (y : Int))), ?_, rfl, ?_⟩
    · rw [← hg, Nat.gcd_comm x y, Nat.gcd_rec y x, Nat.gcd_comm]
    · have e : (x : Int) % (y : Int) = ((x % y : Nat) : Int) := by omega
      rw [e]
      rfl
  · have hy : y = 0 := by have := of_decide_eq_false h; omega
    subst hy
    rw [Nat.gcd_zero_right] at hg
    refine ss_one (s_retv (ev_v 0) ?_)
    rw [hg]
    exact q
/-- law: the text of a fraction -/
def sp_ltext : DSp := fun ss C Q _ => ∃ t b : Int, ss = [.int t, .int b] ∧ t.natAbs.log2 < 1920 ∧ b.natAbs.log2 < 1920 ∧ (strN t).length ≤ 1000 ∧ (strN b).length ≤ 1000 ∧ Q (.str (wrM t b)) C
theorem ok_ltext (T : Top w K mg) : Fc P w K mg base "_law_text" 1 ["_law_top", "_law_bottom"] sp_ltext := by
  refine fc_of (N := N__law_text) T.f__law_text sc__law_text (fun _ _ _ _ _ _ us hl => match us, hl with | [_, _], _ => rfl) (fun ss C Q E q => by obtain ⟨_, _, rfl, _⟩ := q; rfl) fun bd ss Q tk hr hsp => ?_
  obtain ⟨t, b, rfl, ht, hb, lt, lb, q⟩ := hsp
  have lsl : (("/" : Str)).length = 1 := by decide +kernel
  unfold wrM at q
  refine ss_cons (s_ifv (tv_eq (ev_v 1) ev_int) (fun h => ?_) fun h => ss_nil ?_)
  · rw [if_pos (of_decide_eq_true h)] at q
    exact ss_one (s_retv (ev_strI T.b_str (ev_v 0) ht) q)
  · rw [if_neg (of_decide_eq_false h)] at q
    have l2 : (strN t ++ "/" : Str).length = (strN t).length + 1 := by rw [len_tl, tl_append, List.length_append, ← len_tl, ← len_tl, lsl]
    exact ss_one (s_retv (ev_cat (ev_cat (ev_strI T.b_str (ev_v 0) ht) ev_str (by show (strN t).length + _ ≤ _; rw [lsl]; exact line5 (by omega))) (ev_strI T.b_str (ev_v 1) hb) (by show (strN t ++ "/" : Str).length + (strN b).length ≤ _; rw [l2]; exact line5 (by omega))) q)
/-- law: whether a NoRow is of another class -/
def sp_lother : Addr → DSp := fun a ss C Q _ => ss = [.c a] ∧ Q (.bl false) C
theorem ok_lother (T : Top w K mg) : FcZ P w K mg base (cl K "NoRow") "_law_other" 1 ["_law_e"] sp_lother := by
  refine fcZ_of (N := N__law_other) T.f__law_other sc__law_other (fun _ _ _ _ _ _ us hl => match us, hl with | [_], _ => rfl) (fun a ss C Q E q => by rw [q.1]; rfl) fun bd ss Q hz tk hr hsp => ?_
  obtain ⟨rfl, q⟩ := hsp
  obtain ⟨hz, hf⟩ := hz
  have A := fun {x : Str} {Cy : Addr} (hk : PySem.W.kitOne K (.ref (cl K "NoRow")) (.ref Cy) = some false) => hk
  refine ss_cons (s_no (tv_w (wv_or (tv_val (ev_isX List.mem_cons_self T.ec_NoRow hz hf T.b_isinstance (ev_v 0) T.i_NoRow_NoNumber T.g_NoNumber)) fun _ => wv_or (tv_val (ev_isX List.mem_cons_self T.ec_NoRow hz hf T.b_isinstance (ev_v 0) T.i_NoRow_NoSpan T.g_NoSpan)) fun _ => wv_or (tv_val (ev_isX List.mem_cons_self T.ec_NoRow hz hf T.b_isinstance (ev_v 0) T.i_NoRow_NoCut T.g_NoCut)) fun _ => wv_or1 (tv_val (ev_isX List.mem_cons_self T.ec_NoRow hz hf T.b_isinstance (ev_v 0) T.i_NoRow_NoName T.g_NoName)))) rfl (ss_nil ?_))
  exact ss_one (s_retv (ev_or (ev_isX List.mem_cons_self T.ec_NoRow hz hf T.b_isinstance (ev_v 0) T.i_NoRow_TooMuch T.g_TooMuch) fun _ => ev_or (ev_isX List.mem_cons_self T.ec_NoRow hz hf T.b_isinstance (ev_v 0) T.i_NoRow_NoTask T.g_NoTask) fun _ => ev_one (ev_isX List.mem_cons_self T.ec_NoRow hz hf T.b_isinstance (ev_v 0) T.i_NoRow_NoBook T.g_NoBook)) q)
/-- law: a text that writes no number is refused -/
def sp_lrefused : DSp := fun ss C Q _ => ∃ x : Str, ss = [.str x] ∧ x.length ≤ 100000 ∧ numM (tl x) = none ∧ Q (.bl true) C
theorem ok_lrefused (T : Top w K mg) : Fc P w K mg base "_law_refused" 4 ["_law_word"] sp_lrefused := by
  refine fc_of (N := N__law_refused) T.f__law_refused sc__law_refused (fun _ _ _ _ _ _ us hl => match us, hl with | [_], _ => rfl) (fun ss C Q E q => by obtain ⟨_, rfl, _⟩ := q; rfl) fun bd ss Q tk hr hsp => ?_
  obtain ⟨x, rfl, hl, hn, q⟩ := hsp
  refine ss_cons (s_setv 1 ev_bl ?_ sc__law_refused.nd)
  refine ss_cons (s_try_as 2 (Cx := cl K "BoxError") ⟨rfl, by decide, .inl T.g_BoxError⟩ rfl rfl sc__law_refused.nd tk (fun Γ e C' => Γ = [some (.str x), some (.bl false), none] ∧ e = ⟨cl K "NoRow", none⟩ ∧ C' = bd.C) (fun pn xe F H tk2 po => ?_) fun Γ' e C' h => ?_)
  · exact ss_one (s_expr (ee_call ((ok_number_of T).mono (by decide)) hr tk2 (goA (av_cons (ev_v 0) av_nil) ⟨x, rfl, hl, fun _ => ⟨rfl, rfl, rfl⟩, fun t b e => by rw [hn] at e; cases e⟩)))
  · obtain ⟨rfl, rfl, rfl⟩ := h
    refine ⟨true, T.e_NoRow_BoxError, (fun z => by cases z), fun _ => ⟨rfl, fun a oe pn hz hf => ?_⟩⟩
    refine ss_one (s_set 1 (ee_and (go (ev_isX List.mem_cons_self T.ec_NoRow hz hf T.b_isinstance (ev_v 2) T.i_NoRow_NoRow T.g_NoRow) ⟨true, rfl, fun _ => ee_and (go (ev_isVE List.mem_cons_self T.ec_NoRow hz hf T.b_isinstance (ev_v 2) T.i_NoRow_ValueError T.b_ValueError) ⟨true, rfl, fun _ => ee_one (ee_not (ee_callZ (ok_lother T) (by exact ⟨(hr.mono (j := 1) (by decide)).dp, (hr.mono (j := 1) (by decide)).un⟩) ⟨List.mem_cons_self, rfl, hz, hf⟩ (tk_false rfl) (goA (av_cons (ev_v 2) av_nil) ⟨rfl, ⟨false, rfl, ?_⟩⟩))), fun z => by cases z⟩), fun z => by cases z⟩)) sc__law_refused.nd)
    exact ss_one (s_retv (ev_v 1) q)
end
end Bx
namespace Bx
open PySem PySem.Spec PyProof.Rows L2 Dl TL NumText
theorem log_small {n : Nat} (h : n < 10 ^ 200) : n.log2 < 1920 := PySem.Flt.log2_lt_of (by decide) (Nat.lt_trans h (by decide +kernel))
theorem mul_small {i j : Int} (h : i.natAbs < 2 ^ 400000) (h2 : j.natAbs < 2 ^ 400000) : CMulW i j := wide_mul h h2 (by decide) (by decide) (by decide)
theorem mulw {i j : Int} (h : i.natAbs < 10 ^ 200) (h2 : j.natAbs < 10 ^ 200) : CMulW i j := wide_mul (a := 1920) (b := 1920) (Nat.lt_trans h (by decide +kernel)) (Nat.lt_trans h2 (by decide +kernel)) (by decide) (by decide) (by decide)
theorem strN_len {t : Int} (h : t.natAbs < 10 ^ 200) : (strN t).length ≤ 201 := by rw [len_tl, tl_strI]; exact intL_len (by decide) h
theorem pick (p : Str → Prop) {xs : List Str} {i : Int} (h0 : 0 ≤ i) (h1 : i < xs.length) (h : ∀ x ∈ xs, p x) : ∃ x, p x ∧ x ∈ xs ∧ atI (xs.map PyData.str) i = some (.str x) :=
  ⟨_, h _ (List.getElem_mem _), List.getElem_mem _, atI_map PyData.str (atI_lt h0 h1)⟩
theorem cut_len (x : Str) (l u : Option Int) : (cutS x l u).length ≤ x.length := by
  rw [len_tl, len_tl]
  show (List.take (HT.sIx x.length x.length u - HT.sIx x.length 0 l) (List.drop (HT.sIx x.length 0 l) (tl x))).length ≤ _
  rw [List.length_take, List.length_drop]
  omega
theorem cat_len (a b : Str) : (a ++ b).length = a.length + b.length := by rw [len_tl, tl_append, List.length_append, ← len_tl, ← len_tl]
theorem stranger_bad : ∀ c ∈ ((" +.a^xE_,=\\'\"~!(" : Str)).cps.toList, okSign c = false := by decide +kernel
section
variable {P : Program} {w : World} {K : PySem.W.Frag} {mg : Str → Option Value} {base : Heap}
/-- law: a text that writes no number -/
def sp_lno : DSp := fun ss C Q _ => ∃ wy c t b : Int, ss = [.int wy, .int c, .str (wrM t b), .int t, .int b] ∧ 0 ≤ wy ∧ t.natAbs < 10 ^ 9 ∧ 0 < b ∧ b.natAbs < 10 ^ 9 ∧ Int.gcd t b = 1 ∧ ∀ x : Str, x.length ≤ 100000 → numM (tl x) = none → Q (.str x) C
theorem wr_len {t b : Int} (ht : t.natAbs < 10 ^ 200) (hb : b.natAbs < 10 ^ 200) : (wrM t b).length ≤ 500 := by
  have h1 := strN_len ht
  have h2 := strN_len hb
  have h3 : (("/" : Str)).length = 1 := by decide +kernel
  unfold wrM
  split
  · omega
  · rw [cat_len, cat_len]; omega
theorem ok_lno (T : Top w K mg) : Fc P w K mg base "_law_no_number" 1 ["_law_way", "_law_cell", "_law_text_here", "_law_top", "_law_bottom"] sp_lno := by
  refine fc_of (N := N__law_no_number) T.f__law_no_number sc__law_no_number (fun _ _ _ _ _ _ us hl => match us, hl with | [_, _, _, _, _], _ => rfl) (fun ss C Q E q => by obtain ⟨_, _, _, _, rfl, _⟩ := q; rfl) fun bd ss Q tk hr hsp => ?_
  obtain ⟨wy, c, t, b, rfl, h0, ht, hb, hb9, hg, q⟩ := hsp
  have big : (10 : Nat) ^ 9 ≤ 10 ^ 200 := Nat.pow_le_pow_right (by decide) (by decide)
  have bigger : (10 : Nat) ^ 20 ≤ 10 ^ 200 := Nat.pow_le_pow_right (by decide) (by decide)
  have hs0 : 0 ≤ c % 999 := Int.emod_nonneg _ (by decide)
  have hs1 : c % 999 < 999 := Int.emod_lt_of_pos _ (by decide)
  generalize hsm : (1 + c % 999 : Int) = sm
  have hsm0 : 0 < sm := by omega
  have hsm9 : sm.natAbs < 10 ^ 9 := by omega
  have lsm := strN_len (t := sm) (by omega)
  have e1 : tl (("/" : Str)) = [47] := by decide +kernel
  have l1 : (("/" : Str)).length = 1 := by decide +kernel
  have tsm : tl (strN sm) = numL sm.natAbs := by rw [tl_strI, intL_pos (by omega)]
  have lw := wr_len (t := t) (b := b) (by omega) (by omega)
  refine ss_cons (s_setv 5 (ev_strI T.b_str (ev_add ev_int (ev_mod (ev_v 1) ev_int (by decide))) (by rw [hsm]; exact log_small (by omega))) ?_ sc__law_no_number.nd)
  rw [hsm]
  generalize hod : ([(("" : Str)), ("-" : Str), ("-0" : Str), ("/" : Str), ("--1" : Str), ("00" : Str), ("-/2" : Str), ("1//2" : Str), ("/" : Str) ++ strN sm, strN sm ++ ("/" : Str)] : List Str) = od
  refine ss_cons (s_setv 6 (s := .d (.list (od.map .str))) (by
    subst hod
    exact ev_lst (ds := [.str "", .str "-", .str "-0", .str "/", .str "--1", .str "00", .str "-/2", .str "1//2", .str ("/" ++ strN sm), .str (strN sm ++ "/")]) (av_cons ev_str (av_cons ev_str (av_cons ev_str (av_cons ev_str (av_cons ev_str (av_cons ev_str (av_cons ev_str (av_cons ev_str (av_cons (ev_cat ev_str (ev_v 5) (line5 (by show _ + (strN sm).length ≤ _; omega))) (av_cons (ev_cat (ev_v 5) ev_str (line5 (by show (strN sm).length + _ ≤ _; omega))) av_nil))))))))))) ?_ sc__law_no_number.nd)
  refine ss_cons (s_ifv (tv_eq (ev_mod (ev_v 0) ev_int (by decide)) ev_int) (fun _ => ?_) fun _ => ss_nil ?_)
  · -- a stranger
    have hp : (0 : Int) < ((wrM t b).length : Int) + 1 := by omega
    refine ss_cons (s_setv 7 (ev_mod (ev_div (ev_v 1) ev_int (cdiv_small (by decide) (by decide))) (ev_add (ev_lenS T.b_len (ev_v 2) (line5 (by omega))) ev_int) hp) ?_ sc__law_no_number.nd)
    have hi0 : 0 ≤ c % 16 := Int.emod_nonneg _ (by decide)
    have hi1 : c % 16 < 16 := Int.emod_lt_of_pos _ (by decide)
    have hz : ((" +.a^xE_,=\\'\"~!(" : Str)).cps.toList.length = 16 := by decide +kernel
    have hzl : ((" +.a^xE_,=\\'\"~!(" : Str)).length = 16 := by decide +kernel
    have hat := atI_lt (xs := ((" +.a^xE_,=\\'\"~!(" : Str)).cps.toList) hi0 (by omega)
    have hbad := stranger_bad _ (List.getElem_mem (l := ((" +.a^xE_,=\\'\"~!(" : Str)).cps.toList) (n := (c % 16).toNat) (by omega))
    generalize ((" +.a^xE_,=\\'\"~!(" : Str)).cps.toList[(c % 16).toNat]'(by omega) = g at hat hbad
    have c1 := cut_len (wrM t b) none (some (c / 19 % (((wrM t b).length : Int) + 1)))
    have c2 := cut_len (wrM t b) (some (c / 19 % (((wrM t b).length : Int) + 1))) none
    have c3 : (⟨#[g]⟩ : Str).length = 1 := rfl
    refine ss_one (s_retv (ev_cat (ev_cat (ev_slS (ev_v 2) (line5 (by omega)) pv_none (pv_some (ev_v 7))) (ev_ixS ev_str (ev_mod (ev_v 1) ev_int (by decide)) (line5 (by omega)) hat) (line5 (by omega))) (ev_slS (ev_v 2) (line5 (by omega)) (pv_some (ev_v 7)) pv_none) (line5 (by rw [cat_len]; omega))) (q _ (by rw [cat_len, cat_len]; omega) (num_sign (c := g) ?_ hbad)))
    rw [tl_append, tl_append]
    exact List.mem_append_left _ (List.mem_append_right _ (List.mem_singleton_self g))
  refine ss_cons (s_ifv (tv_eq (ev_mod (ev_v 0) ev_int (by decide)) ev_int) (fun _ => ?_) fun _ => ss_nil ?_)
  · -- an odd one
    have hodd : ∀ x ∈ od, x.length ≤ 1000 ∧ numM (tl x) = none := by
      subst hod
      intro x hx
      simp only [List.mem_cons, List.not_mem_nil, or_false] at hx
      rcases hx with rfl | rfl | rfl | rfl | rfl | rfl | rfl | rfl | rfl | rfl
      · decide +kernel
      · decide +kernel
      · decide +kernel
      · decide +kernel
      · decide +kernel
      · decide +kernel
      · decide +kernel
      · decide +kernel
      · refine ⟨by rw [cat_len]; omega, ?_⟩
        rw [tl_append, e1, tsm]
        exact (bad_odd _).1
      · refine ⟨by rw [cat_len]; omega, ?_⟩
        rw [tl_append, e1, tsm]
        exact (bad_odd _).2
    have hlo : od.length = 10 := by subst hod; rfl
    obtain ⟨x, hx, _, hat⟩ := pick (fun x => x.length ≤ 1000 ∧ numM (tl x) = none) (i := c % 10) (Int.emod_nonneg _ (by decide)) (by have := Int.emod_lt_of_pos c (show (0 : Int) < 10 by decide); omega) hodd
    exact ss_one (s_retv (ev_ixL (ev_v 6) (ev_mod (ev_v 1) ev_int (by decide)) hat) (q _ (by omega) hx.2))
  have dv4 : CDivW wy 4 := cdiv_small (by decide) (by decide)
  refine ss_cons (s_ifv (tv_eq (ev_mod (ev_div (ev_v 0) ev_int dv4) ev_int (by decide)) ev_int) (fun _ => ?_) fun _ => ss_nil ?_)
  · -- a nought ahead
    obtain ⟨x, hx, _, hat⟩ := pick (xs := ([("0" : Str), ("-0" : Str)] : List Str)) (fun x => x = "0" ∨ x = "-0") (i := c % 2) (Int.emod_nonneg _ (by decide)) (by have := Int.emod_lt_of_pos c (show (0 : Int) < 2 by decide); simp only [List.length_cons, List.length_nil]; omega) (by simp)
    have ea : (if t < 0 then -t else t) = (t.natAbs : Int) := by split <;> omega
    have la := strN_len (t := (t.natAbs : Int)) (by omega)
    have lx : x.length ≤ 2 := by rcases hx with rfl | rfl <;> decide +kernel
    refine ss_one (s_retv (ev_cat (ev_ixL (ev_lst (ds := [.str "0", .str "-0"]) (av_cons ev_str (av_cons ev_str av_nil))) (ev_mod (ev_v 1) ev_int (by decide)) hat) (ev_strI (i := (t.natAbs : Int)) T.b_str (by rw [← ea]; exact ev_abs T.b_abs (ev_v 3 (s := .int t))) (log_small (by omega))) (line5 (by show x.length + (strN (t.natAbs : Int)).length ≤ _; omega))) (q _ (by show (x ++ strN (t.natAbs : Int)).length ≤ _; rw [cat_len]; omega) ?_))
    show numM (tl (x ++ strN (t.natAbs : Int))) = none
    rw [tl_append, tl_strN]
    rcases hx with rfl | rfl
    · rw [show tl (("0" : Str)) = [48] by decide +kernel]
      exact bad_zero _
    · rw [show tl (("-0" : Str)) = [45, 48] by decide +kernel]
      exact bad_dzero _
  have lt := strN_len (t := t) (by omega)
  refine ss_cons (s_ifv (tv_eq (ev_mod (ev_div (ev_v 0) ev_int dv4) ev_int (by decide)) ev_int) (fun _ => ?_) fun _ => ss_nil ?_)
  · -- a bottom that is none
    obtain ⟨x, hx, _, hat⟩ := pick (xs := ([("1" : Str), ("0" : Str), ("-" : Str) ++ strN sm, ("0" : Str) ++ strN sm] : List Str)) (fun x => x.length ≤ 1000 ∧ 47 ∉ tl x ∧ (wholeM (tl x) = none ∨ wholeM (tl x) = some 0 ∨ wholeM (tl x) = some 1)) (i := c % 4) (Int.emod_nonneg _ (by decide)) (by have := Int.emod_lt_of_pos c (show (0 : Int) < 4 by decide); simp only [List.length_cons, List.length_nil]; omega) (by
      intro x hx
      have d1 : tl (("-" : Str)) = [45] := by decide +kernel
      have d2 : tl (("0" : Str)) = [48] := by decide +kernel
      have d3 : (("-" : Str)).length = 1 := by decide +kernel
      have d4 : (("0" : Str)).length = 1 := by decide +kernel
      have d5 : tl (("1" : Str)) = [49] := by decide +kernel
      have d6 : (("1" : Str)).length = 1 := by decide +kernel
      simp only [List.mem_cons, List.not_mem_nil, or_false] at hx
      rcases hx with rfl | rfl | rfl | rfl
      · rw [d5, d6]; exact ⟨by decide, by decide, .inr (.inr rfl)⟩
      · rw [d2, d4]; exact ⟨by decide, by decide, .inr (.inl rfl)⟩
      · rw [cat_len, tl_append, d1, tsm, d3]
        refine ⟨by omega, ?_, .inl (whole_bad (c := 45) List.mem_cons_self rfl)⟩
        intro z
        rcases List.mem_cons.mp z with z | z
        · exact absurd z (by decide)
        · exact num_free47 _ z
      · rw [cat_len, tl_append, d2, tsm, d4]
        refine ⟨by omega, ?_, .inl (whole_zero _)⟩
        intro z
        rcases List.mem_cons.mp z with z | z
        · exact absurd z (by decide)
        · exact num_free47 _ z)
    have d3 : (("-" : Str)).length = 1 := by decide +kernel
    have d4 : (("0" : Str)).length = 1 := by decide +kernel
    refine ss_one (s_retv (ev_cat (ev_cat (ev_strI T.b_str (ev_v 3) (log_small (by omega))) ev_str (line5 (by show (strN t).length + _ ≤ _; omega))) (ev_ixL (ev_lst (ds := [.str "1", .str "0", .str ("-" ++ strN sm), .str ("0" ++ strN sm)]) (av_cons ev_str (av_cons ev_str (av_cons (ev_cat ev_str (ev_v 5) (line5 (by show _ + (strN sm).length ≤ _; omega))) (av_cons (ev_cat ev_str (ev_v 5) (line5 (by show _ + (strN sm).length ≤ _; omega))) av_nil))))) (ev_mod (ev_v 1) ev_int (by decide)) hat) (line5 (by show (strN t ++ "/" : Str).length + x.length ≤ _; rw [cat_len]; omega))) (q _ (by show (strN t ++ "/" ++ x : Str).length ≤ _; rw [cat_len, cat_len]; omega) ?_))
    show numM (tl (strN t ++ "/" ++ x : Str)) = none
    rw [tl_append, tl_append, tl_strI, e1, List.append_assoc]
    exact bad_bot hx.2.1 hx.2.2
  refine ss_cons (s_ifv (tv_eq (ev_mod (ev_div (ev_v 0) ev_int dv4) ev_int (by decide)) ev_int) (fun _ => ?_) fun _ => ss_nil ?_)
  · -- a common factor
    have hk0 : 0 ≤ c % 7 := Int.emod_nonneg _ (by decide)
    have hk1 : c % 7 < 7 := Int.emod_lt_of_pos _ (by decide)
    have hk : (2 : Int) ≤ 2 + c % 7 := by omega
    have hk9 : (2 + c % 7 : Int).natAbs < 10 := by omega
    have hbad := bad_common (k := 2 + c % 7) hb hk hg
    have m1 : (t * (2 + c % 7)).natAbs < 10 ^ 20 := by
      rw [Int.natAbs_mul]
      exact Nat.lt_of_lt_of_le (Nat.mul_lt_mul'' ht hk9) (by decide)
    have m2 : (b * (2 + c % 7)).natAbs < 10 ^ 20 := by
      rw [Int.natAbs_mul]
      exact Nat.lt_of_lt_of_le (Nat.mul_lt_mul'' hb9 hk9) (by decide)
    have n1 := strN_len (t := t * (2 + c % 7)) (by omega)
    have n2 := strN_len (t := b * (2 + c % 7)) (by omega)
    have w1 : CMulW t (2 + c % 7) := mulw (by omega) (by omega)
    have w2 : CMulW b (2 + c % 7) := mulw (by omega) (by omega)
    refine ss_one (s_retv (ev_cat (ev_cat (ev_strI T.b_str (ev_mul (ev_v 3) (ev_add ev_int (ev_mod (ev_v 1) ev_int (by decide))) w1) (log_small (by omega))) ev_str (line5 (by show (strN (t * (2 + c % 7))).length + _ ≤ _; omega))) (ev_strI T.b_str (ev_mul (ev_v 4) (ev_add ev_int (ev_mod (ev_v 1) ev_int (by decide))) w2) (log_small (by omega))) (line5 (by show (strN (t * (2 + c % 7)) ++ "/" : Str).length + (strN (b * (2 + c % 7))).length ≤ _; rw [cat_len]; omega))) (q _ (by show (strN (t * (2 + c % 7)) ++ "/" ++ strN (b * (2 + c % 7)) : Str).length ≤ _; rw [cat_len, cat_len]; omega) ?_))
    show numM (tl (strN (t * (2 + c % 7)) ++ "/" ++ strN (b * (2 + c % 7)) : Str)) = none
    rw [tl_append, tl_append, tl_strI, tl_strI, e1, List.append_assoc]
    exact hbad
  -- ten figures
  have hk0 : 0 ≤ c % 1000000000000 := Int.emod_nonneg _ (by decide)
  have hk1 : c % 1000000000000 < 1000000000000 := Int.emod_lt_of_pos _ (by decide)
  have en : ((10 : Int) ^ (9 : Int).toNat + c % (10 : Int) ^ (12 : Int).toNat) = (((10 ^ 9 + c % 1000000000000).toNat : Nat) : Int) := by
    show (1000000000 + c % 1000000000000 : Int) = _
    omega
  have hn : 10 ^ 9 ≤ (10 ^ 9 + c % 1000000000000).toNat := by omega
  have hn2 : (10 ^ 9 + c % 1000000000000).toNat < 10 ^ 20 := by omega
  generalize (10 ^ 9 + c % 1000000000000).toNat = n at en hn hn2
  have ln := strN_len (t := (n : Int)) (by omega)
  obtain ⟨x, hx, _, hat⟩ := pick (xs := ([("" : Str), ("-" : Str), ("1/" : Str)] : List Str)) (fun x => x = "" ∨ x = "-" ∨ x = "1/") (i := c % 3) (Int.emod_nonneg _ (by decide)) (by have := Int.emod_lt_of_pos c (show (0 : Int) < 3 by decide); simp only [List.length_cons, List.length_nil]; omega) (by simp)
  have lx : x.length ≤ 2 := by rcases hx with rfl | rfl | rfl <;> decide +kernel
  refine ss_one (s_retv (ev_cat (ev_ixL (ev_lst (ds := [.str "", .str "-", .str "1/"]) (av_cons ev_str (av_cons ev_str (av_cons ev_str av_nil)))) (ev_mod (ev_v 1) ev_int (by decide)) hat) (ev_strI (i := (n : Int)) T.b_str (by rw [← en]; exact ev_add (ev_pow ev_int ev_int ⟨by decide, by decide, by decide⟩) (ev_mod (ev_v 1) (ev_pow ev_int ev_int ⟨by decide, by decide, by decide⟩) (by decide))) (log_small (by omega))) (line5 (by show x.length + (strN (n : Int)).length ≤ _; omega))) (q _ (by show (x ++ strN (n : Int)).length ≤ _; rw [cat_len]; omega) ?_))
  show numM (tl (x ++ strN (n : Int))) = none
  rw [tl_append, tl_strN]
  obtain ⟨b1, b2, b3⟩ := bad_great hn
  rcases hx with rfl | rfl | rfl
  · rw [show tl (("" : Str)) = [] by decide +kernel]
    exact b1
  · rw [show tl (("-" : Str)) = [45] by decide +kernel]
    exact b2
  · rw [show tl (("1/" : Str)) = [49, 47] by decide +kernel]
    exact b3
end
end Bx
namespace Bx
open PySem PySem.Spec PyProof.Rows L2 Dl TL NumText
theorem low_terms {t b : Int} (hb : 0 < b) : Int.gcd (t / (Int.gcd t b : Int)) (b / (Int.gcd t b : Int)) = 1 ∧ 0 < b / (Int.gcd t b : Int) ∧ (t / (Int.gcd t b : Int)).natAbs ≤ t.natAbs ∧ (b / (Int.gcd t b : Int)).natAbs ≤ b.natAbs := by
  have h0 : 0 < Int.gcd t b := Int.gcd_pos_of_ne_zero_right _ (by omega)
  have d1 : (Int.gcd t b : Int) ∣ t := Int.gcd_dvd_left ..
  have d2 : (Int.gcd t b : Int) ∣ b := Int.gcd_dvd_right ..
  have n1 : (t / (Int.gcd t b : Int)).natAbs = t.natAbs / Int.gcd t b := by rw [Int.natAbs_ediv_of_dvd d1, Int.natAbs_natCast]
  have n2 : (b / (Int.gcd t b : Int)).natAbs = b.natAbs / Int.gcd t b := by rw [Int.natAbs_ediv_of_dvd d2, Int.natAbs_natCast]
  refine ⟨?_, ?_, ?_, ?_⟩
  · show Nat.gcd _ _ = 1
    rw [n1, n2]
    show Nat.gcd (t.natAbs / Nat.gcd t.natAbs b.natAbs) (b.natAbs / Nat.gcd t.natAbs b.natAbs) = 1
    rw [Nat.gcd_div (Nat.gcd_dvd_left ..) (Nat.gcd_dvd_right ..)]
    exact Nat.div_self h0
  · exact Int.ediv_pos_of_pos_of_dvd hb (by omega) d2
  · rw [n1]; exact Nat.div_le_self _ _
  · rw [n2]; exact Nat.div_le_self _ _
abbrev lawLevel : Nat := 6
section
variable {P : Program} {w : World} {K : PySem.W.Frag} {mg : Str → Option Value} {base : Heap}
theorem ok_law (T : Top w K mg) {f : Addr} {fd : FuncData} (Fd : FunD K "law" "law" (defArgs s_law) (defBody s_law) (defScope s_law) [] [] f fd) : FnOk P w K mg base (L2N.CX P w) lawLevel f fd ["_law_script"] (toSp K spLaw) := by
  refine fn_ok (N := N_law) (k := 5) Fd sc_law (fun ss C Q E q => by obtain ⟨_, rfl, _⟩ := q; rfl) fun bd ss Q tk hr hsp => ?_
  obtain ⟨ns0, rfl, hlen, q⟩ := hsp
  have cel := (ok_cell_at (P := P) (base := base) T).mono (show 1 ≤ 5 by decide)
  have big : (10 : Nat) ^ 9 ≤ 10 ^ 200 := Nat.pow_le_pow_right (by decide) (by decide)
  -- from the fraction on
  have fin : ∀ (t b : Int), t.natAbs < 10 ^ 9 → 0 < b → b.natAbs < 10 ^ 9 → SS (Rb P w K mg base N_law "law" (defScope s_law) bd) ((defBody s_law).drop 4) [some (.d (.list (ns0.map .int))), some (.int t), some (.int b), none, none, none, none, none, none] bd.C { nx := fun _ C' => Q .non C', rt := Q } := fun t b ht hb hb9 => by
    obtain ⟨g1, g2, g3, g4⟩ := low_terms (t := t) hb
    have ga : (if t < 0 then -t else t) = (t.natAbs : Int) := by split <;> omega
    have gb : b = (b.natAbs : Int) := by omega
    have gg : Int.gcd t b = Nat.gcd t.natAbs b.natAbs := rfl
    have gpos : 0 < Int.gcd t b := Int.gcd_pos_of_ne_zero_right _ (by omega)
    have gle : Int.gcd t b ≤ b.natAbs := Nat.le_of_dvd (by omega) (Nat.gcd_dvd_right _ _)
    have cd : ∀ i : Int, CDivW i (Int.gcd t b : Int) := fun i => cdiv_small (by omega) (by omega)
    refine ss_cons (s_set 3 (ee_call ((ok_ldivisor T).mono (by decide)) hr tk (goA (av_cons (ev_abs T.b_abs (ev_v 1 (s := .int t))) (av_cons (ev_v 2) av_nil)) ⟨t.natAbs, b.natAbs, by rw [ga, ← gb], ?_⟩)) sc_law.nd)
    rw [← gg]
    generalize Int.gcd t b = g at *
    refine ss_cons (s_setv 1 (ev_div (ev_v 1) (ev_v 3) (cd _)) ?_ sc_law.nd)
    refine ss_cons (s_setv 2 (ev_div (ev_v 2) (ev_v 3) (cd _)) ?_ sc_law.nd)
    have ht' : (t / (g : Int)).natAbs < 10 ^ 9 := by omega
    have hb' : (b / (g : Int)).natAbs < 10 ^ 9 := by omega
    simp only [List.set]
    generalize t / (g : Int) = t' at g1 g3 ht' ⊢
    generalize b / (g : Int) = b' at g1 g2 g4 hb' ⊢
    have n1 := strN_len (t := t') (by omega)
    have n2 := strN_len (t := b') (by omega)
    have lw := wr_len (t := t') (b := b') (by omega) (by omega)
    refine ss_cons (s_setv 4 (ev_call ((ok_ltext T).mono (by decide)) hr tk (av_cons (ev_v 1) (av_cons (ev_v 2) av_nil)) fun Q q => ⟨t', b', rfl, log_small (by omega), log_small (by omega), by omega, by omega, q⟩) ?_ sc_law.nd)
    refine ss_cons (s_set 5 (ee_call ((ok_number_of T).mono (by decide)) hr tk (goA (av_cons (ev_v 4) av_nil) ⟨wrM t' b', rfl, by omega, fun e => (by rw [tl_wr, num_written ht' g2 hb' g1] at e; cases e), fun t2 b2 e => ?_⟩)) sc_law.nd)
    rw [tl_wr, num_written ht' g2 hb' g1] at e
    cases e
    have wh : ∀ {i : Int} {e : Expr} {p pos : Pos} {es : List Expr}, True := trivial
    refine ss_cons (s_no (tv_w (wv_or (tv_not (tv_val (ev_isTy (n := "tuple") (d := .tuple [.int t', .int b']) T.b_isinstance T.b_tuple (by decide +kernel) (ev_v 5) dv_d kit_tt))) fun _ => wv_or (tv_ne (ev_lenT T.b_len (ev_v 5)) ev_int) fun _ => wv_or (tv_not (tv_val (ev_call ((ok_whole T).mono (by decide)) hr tk (av_cons (ev_ixT (ev_v 5) ev_int (d := .int t') rfl) av_nil) fun Q q => ⟨_, rfl, q⟩))) fun _ => wv_or1 (tv_not (tv_val (ev_call ((ok_whole T).mono (by decide)) hr tk (av_cons (ev_ixT (ev_v 5) ev_int (d := .int b') rfl) av_nil) fun Q q => ⟨_, rfl, q⟩))))) rfl (ss_nil ?_))
    refine ss_cons (s_no (tv_w (wv_or (tv_neV (room64 hr) (ev_v 5) (ev_tup (ds := [.int t', .int b']) (av_cons (ev_v 1) (av_cons (ev_v 2) av_nil))) dv_d dv_d (sh_pair _ _) (sh_pair _ _)) fun _ => wv_or1 (tv_nes (ev_call ((ok_written T).mono (by decide)) hr tk (av_cons (ev_tup (ds := [.int t', .int b']) (av_cons (ev_v 1) (av_cons (ev_v 2) av_nil))) av_nil) fun Q q => ⟨t', b', rfl, log_small (by omega), log_small (by omega), by omega, by omega, q⟩) (ev_v 4)))) (by rw [eqv_pair]; simp) (ss_nil ?_))
    -- the great one
    have f0 : 0 ≤ cellAt ns0 3 % (10 : Int) ^ (60 : Int).toNat := Int.emod_nonneg _ (by decide)
    have f1 : cellAt ns0 3 % (10 : Int) ^ (60 : Int).toNat < 10 ^ 60 := Int.emod_lt_of_pos _ (by decide)
    have x0 : 0 ≤ cellAt ns0 4 % (2 * (10 : Int) ^ (60 : Int).toNat * (10 : Int) ^ (60 : Int).toNat) := Int.emod_nonneg _ (by decide)
    have x1 : cellAt ns0 4 % (2 * (10 : Int) ^ (60 : Int).toNat * (10 : Int) ^ (60 : Int).toNat) < 2 * 10 ^ 60 * 10 ^ 60 := Int.emod_lt_of_pos _ (by decide)
    have p1 : CPow 10 60 := ⟨by decide, by decide, by decide⟩
    have w1 : CMulW 2 ((10 : Int) ^ (60 : Int).toNat) := mulw (by decide +kernel) (by decide +kernel)
    have w2 : CMulW (2 * (10 : Int) ^ (60 : Int).toNat) ((10 : Int) ^ (60 : Int).toNat) := mulw (by decide +kernel) (by decide +kernel)
    have w3 : CMulW ((10 : Int) ^ (60 : Int).toNat) ((10 : Int) ^ (60 : Int).toNat) := mulw (by decide +kernel) (by decide +kernel)
    refine ss_cons (s_setv 6 (ev_add ev_int (ev_mod (ev_call cel hr tk (av_cons (ev_v 0) (av_cons ev_int av_nil)) fun Q q => ⟨ns0, 3, rfl, by decide, q⟩) (ev_pow ev_int ev_int p1) (by decide))) ?_ sc_law.nd)
    generalize hF : (1 : Int) + cellAt ns0 3 % (10 : Int) ^ (60 : Int).toNat = far
    have F0 : 0 < far := by omega
    have F1 : far ≤ 10 ^ 60 := by omega
    generalize hX : cellAt ns0 4 % (2 * (10 : Int) ^ (60 : Int).toNat * (10 : Int) ^ (60 : Int).toNat) - (10 : Int) ^ (60 : Int).toNat * (10 : Int) ^ (60 : Int).toNat = gr
    have G1 : gr.natAbs ≤ 10 ^ 120 := by
      have e : (10 : Int) ^ (60 : Int).toNat * (10 : Int) ^ (60 : Int).toNat = 10 ^ 120 := by decide +kernel
      have e2 : (2 * 10 ^ 60 * 10 ^ 60 : Int) = 2 * 10 ^ 120 := by decide +kernel
      rw [e] at hX
      rw [e2] at x1
      omega
    have G2 : (gr * far).natAbs ≤ 10 ^ 180 := by
      rw [Int.natAbs_mul]
      have : far.natAbs ≤ 10 ^ 60 := by omega
      exact Nat.le_trans (Nat.mul_le_mul G1 this) (by decide +kernel)
    have K1 : (10 : Nat) ^ 120 < 10 ^ 200 := by decide +kernel
    have K2 : (10 : Nat) ^ 180 + 1 < 10 ^ 200 := by decide +kernel
    have K3 : (10 : Nat) ^ 60 < 10 ^ 200 := by decide +kernel
    have hf200 : far.natAbs < 10 ^ 200 := by omega
    have hx200 : gr.natAbs < 10 ^ 200 := Nat.lt_of_le_of_lt G1 K1
    have hg200 : (gr * far + 1).natAbs < 10 ^ 200 := Nat.lt_of_le_of_lt (Nat.le_trans (Int.natAbs_add_le _ _) (Nat.add_le_add_right G2 1)) K2
    refine ss_cons (s_setv 7 (ev_add (ev_mul (i := gr) (by rw [← hX]; exact ev_sub (ev_mod (ev_call cel hr tk (av_cons (ev_v 0) (av_cons ev_int av_nil)) fun Q q => ⟨ns0, 4, rfl, by decide, q⟩) (ev_mul (ev_mul ev_int (ev_pow ev_int ev_int p1) w1) (ev_pow ev_int ev_int p1) w2) (by decide)) (ev_mul (ev_pow ev_int ev_int p1) (ev_pow ev_int ev_int p1) w3)) (ev_v 6) (mulw hx200 hf200)) ev_int) ?_ sc_law.nd)
    generalize gr * far + 1 = great at hg200
    have n3 := strN_len hg200
    have n4 := strN_len hf200
    have lw2 := wr_len hg200 hf200
    refine ss_cons (s_setv 8 (ev_call ((ok_written T).mono (by decide)) hr tk (av_cons (ev_tup (ds := [.int great, .int far]) (av_cons (ev_v 7) (av_cons (ev_v 6) av_nil))) av_nil) fun Q q => ⟨great, far, rfl, log_small hg200, log_small hf200, by omega, by omega, q⟩) ?_ sc_law.nd)
    refine ss_cons (s_no (tv_w (wv_or (tv_not (tv_val (ev_isTy (n := "str") (d := .str (wrM great far)) T.b_isinstance T.b_str (by decide +kernel) (ev_v 8) dv_d kit_ss))) fun _ => wv_or1 (tv_nes (ev_v 8) (ev_call ((ok_ltext T).mono (by decide)) hr tk (av_cons (ev_v 7) (av_cons (ev_v 6) av_nil)) fun Q q => ⟨great, far, rfl, log_small hg200, log_small hf200, by omega, by omega, q⟩)))) (by simp) (ss_nil ?_))
    have y0 : 0 ≤ cellAt ns0 5 % 16 := Int.emod_nonneg _ (by decide)
    refine ss_one (s_ret (ee_call ((ok_lrefused T).mono (by decide)) hr tk (ea_cons (ee_call ((ok_lno T).mono (by decide)) hr tk (goA (av_cons (ev_mod (ev_call cel hr tk (av_cons (ev_v 0) (av_cons ev_int av_nil)) fun Q q => ⟨ns0, 5, rfl, by decide, q⟩) ev_int (by decide)) (av_cons (ev_call cel hr tk (av_cons (ev_v 0) (av_cons ev_int av_nil)) fun Q q => ⟨ns0, 6, rfl, by decide, q⟩) (av_cons (ev_v 4) (av_cons (ev_v 1) (av_cons (ev_v 2) av_nil))))) ⟨_, _, t', b', rfl, y0, ht', g2, hb', g1, fun x lx hx => ea_nil ⟨x, rfl, lx, hx, q _⟩⟩)))))
  have a0 := Int.emod_nonneg (cellAt ns0 0) (show (2 * (10 : Int) ^ (9 : Int).toNat - 1) ≠ 0 by decide)
  have a1 := Int.emod_lt_of_pos (cellAt ns0 0) (show 0 < (2 * (10 : Int) ^ (9 : Int).toNat - 1) by decide)
  have b0 := Int.emod_nonneg (cellAt ns0 1) (show ((10 : Int) ^ (9 : Int).toNat - 1) ≠ 0 by decide)
  have b1 := Int.emod_lt_of_pos (cellAt ns0 1) (show 0 < ((10 : Int) ^ (9 : Int).toNat - 1) by decide)
  have p9 : CPow 10 9 := ⟨by decide, by decide, by decide⟩
  have e9 : (10 : Int) ^ (9 : Int).toNat = 1000000000 := by decide +kernel
  refine ss_cons (s_setv 1 (ev_sub (ev_mod (ev_call cel hr tk (av_cons (ev_v 0) (av_cons ev_int av_nil)) fun Q q => ⟨ns0, 0, rfl, by decide, q⟩) (ev_sub (ev_mul ev_int (ev_pow ev_int ev_int p9) (mulw (by decide +kernel) (by decide +kernel))) ev_int) (by decide)) (ev_sub (ev_pow ev_int ev_int p9) ev_int)) ?_ sc_law.nd)
  refine ss_cons (s_setv 2 (ev_add ev_int (ev_mod (ev_call cel hr tk (av_cons (ev_v 0) (av_cons ev_int av_nil)) fun Q q => ⟨ns0, 1, rfl, by decide, q⟩) (ev_sub (ev_pow ev_int ev_int p9) ev_int) (by decide))) ?_ sc_law.nd)
  generalize ht : cellAt ns0 0 % (2 * (10 : Int) ^ (9 : Int).toNat - 1) - ((10 : Int) ^ (9 : Int).toNat - 1) = t
  generalize hb : (1 : Int) + cellAt ns0 1 % ((10 : Int) ^ (9 : Int).toNat - 1) = b
  have ht9 : t.natAbs < 10 ^ 9 := by rw [e9] at *; omega
  have hb0 : 0 < b := by omega
  have hb9 : b.natAbs < 10 ^ 9 := by rw [e9] at *; omega
  have mid : ∀ b : Int, 0 < b → b.natAbs < 10 ^ 9 → SS (Rb P w K mg base N_law "law" (defScope s_law) bd) ((defBody s_law).drop 3) [some (.d (.list (ns0.map .int))), some (.int t), some (.int b), none, none, none, none, none, none] bd.C { nx := fun _ C' => Q .non C', rt := Q } := fun b hb0 hb9 => by
    refine ss_cons (s_ifv (tv_eq (ev_mod (ev_call cel hr tk (av_cons (ev_v 0) (av_cons ev_int av_nil)) fun Q q => ⟨ns0, 2, rfl, by decide, q⟩) ev_int (by decide)) ev_int) (fun _ => ?_) fun _ => ss_nil (fin t b ht9 hb0 hb9))
    refine ss_cons (s_setv 1 (ev_sub (ev_mod (ev_v 1) ev_int (by decide)) ev_int) ?_ sc_law.nd)
    refine ss_one (s_setv 2 (ev_add ev_int (ev_mod (ev_v 2) ev_int (by decide))) ?_ sc_law.nd)
    have := Int.emod_nonneg t (show (401 : Int) ≠ 0 by decide)
    have := Int.emod_lt_of_pos t (show (0 : Int) < 401 by decide)
    have := Int.emod_nonneg b (show (60 : Int) ≠ 0 by decide)
    have := Int.emod_lt_of_pos b (show (0 : Int) < 60 by decide)
    exact fin (t % 401 - 200) (1 + b % 60) (by omega) (by omega) (by omega)
  refine ss_cons (s_ifv (tv_eq (ev_mod (ev_call cel hr tk (av_cons (ev_v 0) (av_cons ev_int av_nil)) fun Q q => ⟨ns0, 2, rfl, by decide, q⟩) ev_int (by decide)) ev_int) (fun _ => ?_) fun _ => ss_nil (mid b hb0 hb9))
  exact ss_one (s_setv 2 ev_int (mid 1 (by decide) (by decide)) sc_law.nd)
end
end Bx
namespace Bx
open PySem PySem.Spec PyProof.Rows L2 Dl
def fn0 : List He.DefD := [⟨("divisor", none), "divisor", "divisor", defArgs s_divisor, defBody s_divisor, defScope s_divisor, [], []⟩, ⟨("fraction", none), "fraction", "fraction", defArgs s_fraction, defBody s_fraction, defScope s_fraction, [], []⟩, ⟨("whole_of", none), "whole_of", "whole_of", defArgs s_whole_of, defBody s_whole_of, defScope s_whole_of, [], []⟩, ⟨("number_of", none), "number_of", "number_of", defArgs s_number_of, defBody s_number_of, defScope s_number_of, [], []⟩, ⟨("written", none), "written", "written", defArgs s_written, defBody s_written, defScope s_written, [], []⟩, ⟨("_law_cell_at", none), "_law_cell_at", "_law_cell_at", defArgs s__law_cell_at, defBody s__law_cell_at, defScope s__law_cell_at, [], []⟩, ⟨("_law_whole", none), "_law_whole", "_law_whole", defArgs s__law_whole, defBody s__law_whole, defScope s__law_whole, [], []⟩, ⟨("_law_divisor", none), "_law_divisor", "_law_divisor", defArgs s__law_divisor, defBody s__law_divisor, defScope s__law_divisor, [], []⟩, ⟨("_law_text", none), "_law_text", "_law_text", defArgs s__law_text, defBody s__law_text, defScope s__law_text, [], []⟩, ⟨("_law_other", none), "_law_other", "_law_other", defArgs s__law_other, defBody s__law_other, defScope s__law_other, [], []⟩, ⟨("_law_refused", none), "_law_refused", "_law_refused", defArgs s__law_refused, defBody s__law_refused, defScope s__law_refused, [], []⟩, ⟨("_law_no_number", none), "_law_no_number", "_law_no_number", defArgs s__law_no_number, defBody s__law_no_number, defScope s__law_no_number, [], []⟩, ⟨("law", none), "law", "law", defArgs s_law, defBody s_law, defScope s_law, [], []⟩]
def fn : List He.DefD := fn0
def fa0 : List He.Fa := [.glo "divisor", .glo "fraction", .glo "whole_of", .glo "number_of", .glo "written", .glo "_law_cell_at", .glo "_law_whole", .glo "_law_divisor", .glo "_law_text", .glo "_law_other", .glo "_law_refused", .glo "_law_no_number", .glo "law", .exc "NoNumber", .glo "NoNumber", .exc "NoRow", .glo "NoRow", .glo "BoxError", .glo "NoBook", .glo "NoCut", .glo "NoName", .glo "NoNumber", .glo "NoRow", .glo "NoSpan", .glo "NoTask", .glo "TooMuch", .exm "NoNumber" "BoxError" true, .exm "NoRow" "BoxError" true, .str "FIGURES" "0123456789", .free "abs"]
def fa1 : List He.Fa := [.free "bool", .free "int", .free "isinstance", .free "len", .free "str", .free "tuple", .free "ValueError"]
def fa : List He.Fa := fa0 ++ fa1
def exl0 : List (PySem.W.Frag → Bool) := [fun K => excCB K "NoNumber", fun K => decide (PySem.W.kitOne K (.ref (He.ga K "NoNumber")) (.ref (He.ga K "NoBook")) = some false), fun K => decide (PySem.W.kitOne K (.ref (He.ga K "NoNumber")) (.ref (He.ga K "NoCut")) = some false), fun K => decide (PySem.W.kitOne K (.ref (He.ga K "NoNumber")) (.ref (He.ga K "NoName")) = some false), fun K => decide (PySem.W.kitOne K (.ref (He.ga K "NoNumber")) (.ref (He.ga K "NoNumber")) = some true), fun K => decide (PySem.W.kitOne K (.ref (He.ga K "NoNumber")) (.ref (He.ga K "NoRow")) = some false), fun K => decide (PySem.W.kitOne K (.ref (He.ga K "NoNumber")) (.ref (He.ga K "NoSpan")) = some false), fun K => decide (PySem.W.kitOne K (.ref (He.ga K "NoNumber")) (.ref (He.ga K "NoTask")) = some false), fun K => decide (PySem.W.kitOne K (.ref (He.ga K "NoNumber")) (.ref (He.ga K "TooMuch")) = some false), fun K => decide (PySem.W.kitOne K (.ref (He.ga K "NoNumber")) (.type "ValueError") = some true), fun K => excCB K "NoRow", fun K => decide (PySem.W.kitOne K (.ref (He.ga K "NoRow")) (.ref (He.ga K "NoBook")) = some false), fun K => decide (PySem.W.kitOne K (.ref (He.ga K "NoRow")) (.ref (He.ga K "NoCut")) = some false), fun K => decide (PySem.W.kitOne K (.ref (He.ga K "NoRow")) (.ref (He.ga K "NoName")) = some false), fun K => decide (PySem.W.kitOne K (.ref (He.ga K "NoRow")) (.ref (He.ga K "NoNumber")) = some false), fun K => decide (PySem.W.kitOne K (.ref (He.ga K "NoRow")) (.ref (He.ga K "NoRow")) = some true), fun K => decide (PySem.W.kitOne K (.ref (He.ga K "NoRow")) (.ref (He.ga K "NoSpan")) = some false), fun K => decide (PySem.W.kitOne K (.ref (He.ga K "NoRow")) (.ref (He.ga K "NoTask")) = some false), fun K => decide (PySem.W.kitOne K (.ref (He.ga K "NoRow")) (.ref (He.ga K "TooMuch")) = some false), fun K => decide (PySem.W.kitOne K (.ref (He.ga K "NoRow")) (.type "ValueError") = some true)]
def exl : List (PySem.W.Frag → Bool) := exl0
def loose0 : List PySem.Str := ["BoxError", "NoNumber", "NoSpan", "NoCut", "NoRow", "TooMuch", "NoTask", "NoBook", "NoName", "divisor", "fraction", "FIGURES", "whole_of", "number_of", "written", "_law_cell_at", "_law_whole", "_law_divisor", "_law_text", "_law_other", "_law_refused", "_law_no_number"]
def loose : List PySem.Str := loose0
def tabs : List He.Tab := []
abbrev default_ : He.DefD := ⟨("", none), "", "", defArgs (topS 0), defBody (topS 0), defScope (topS 0), [], []⟩
abbrev default_t : He.Tab := (fun _ => 0, [])
def ex (K : PySem.W.Frag) : Bool := exl.all fun f => f K
theorem exb_at {K : PySem.W.Frag} (h : ex K = true) (i : Nat) {f : PySem.W.Frag → Bool} (e : exl[i]? = some f) : f K = true := List.all_eq_true.mp h f (List.mem_of_getElem? e)
abbrev Rw : PySem.W.OpenRow := PySem.W.OpenLaw.row PySem.Challenge.rw_boxnarrow_k11_numbers_written
abbrev hk : PySem.W.Hook := He.hookX 6 fa fn tabs [] ex
def ob (s : PySem.W.SharedT) : He.AlX := He.obsX 6 fa fn tabs [] ex (HandSHeadRun.getT s)
theorem ob_eq (s : PySem.W.SharedT) : ob s = hk.obs s.abs := He.obsX_eq (HandSHeadRun.getT_eq s)
theorem run (w : World) : HandSHeadRun.RunEq Rw (PySem.W.view Rw.prog [26]) hk ob 20000 loose w := by
  intro os
  kernel_rfl
theorem top_of {w : World} {K : PySem.W.Frag} {h : Heap} {mg : Str → Option Value} (X : K.In h) (G : h.Ns mainGlobals mg) (c : He.SaysX fa fn tabs [] ex w h K) : Top w K mg where
  f_divisor := (by obtain ⟨fd, F⟩ := c.t.d.def_ 0 (d := fn.getD 0 default_) rfl; exact ⟨_, fd, He.glo_ok X G (c.t.d.fact 0 (f := .glo "divisor") rfl), F⟩)
  f_fraction := (by obtain ⟨fd, F⟩ := c.t.d.def_ 1 (d := fn.getD 1 default_) rfl; exact ⟨_, fd, He.glo_ok X G (c.t.d.fact 1 (f := .glo "fraction") rfl), F⟩)
  f_whole_of := (by obtain ⟨fd, F⟩ := c.t.d.def_ 2 (d := fn.getD 2 default_) rfl; exact ⟨_, fd, He.glo_ok X G (c.t.d.fact 2 (f := .glo "whole_of") rfl), F⟩)
  f_number_of := (by obtain ⟨fd, F⟩ := c.t.d.def_ 3 (d := fn.getD 3 default_) rfl; exact ⟨_, fd, He.glo_ok X G (c.t.d.fact 3 (f := .glo "number_of") rfl), F⟩)
  f_written := (by obtain ⟨fd, F⟩ := c.t.d.def_ 4 (d := fn.getD 4 default_) rfl; exact ⟨_, fd, He.glo_ok X G (c.t.d.fact 4 (f := .glo "written") rfl), F⟩)
  f__law_cell_at := (by obtain ⟨fd, F⟩ := c.t.d.def_ 5 (d := fn.getD 5 default_) rfl; exact ⟨_, fd, He.glo_ok X G (c.t.d.fact 5 (f := .glo "_law_cell_at") rfl), F⟩)
  f__law_whole := (by obtain ⟨fd, F⟩ := c.t.d.def_ 6 (d := fn.getD 6 default_) rfl; exact ⟨_, fd, He.glo_ok X G (c.t.d.fact 6 (f := .glo "_law_whole") rfl), F⟩)
  f__law_divisor := (by obtain ⟨fd, F⟩ := c.t.d.def_ 7 (d := fn.getD 7 default_) rfl; exact ⟨_, fd, He.glo_ok X G (c.t.d.fact 7 (f := .glo "_law_divisor") rfl), F⟩)
  f__law_text := (by obtain ⟨fd, F⟩ := c.t.d.def_ 8 (d := fn.getD 8 default_) rfl; exact ⟨_, fd, He.glo_ok X G (c.t.d.fact 8 (f := .glo "_law_text") rfl), F⟩)
  f__law_other := (by obtain ⟨fd, F⟩ := c.t.d.def_ 9 (d := fn.getD 9 default_) rfl; exact ⟨_, fd, He.glo_ok X G (c.t.d.fact 9 (f := .glo "_law_other") rfl), F⟩)
  f__law_refused := (by obtain ⟨fd, F⟩ := c.t.d.def_ 10 (d := fn.getD 10 default_) rfl; exact ⟨_, fd, He.glo_ok X G (c.t.d.fact 10 (f := .glo "_law_refused") rfl), F⟩)
  f__law_no_number := (by obtain ⟨fd, F⟩ := c.t.d.def_ 11 (d := fn.getD 11 default_) rfl; exact ⟨_, fd, He.glo_ok X G (c.t.d.fact 11 (f := .glo "_law_no_number") rfl), F⟩)
  f_law := (by obtain ⟨fd, F⟩ := c.t.d.def_ 12 (d := fn.getD 12 default_) rfl; exact ⟨_, fd, He.glo_ok X G (c.t.d.fact 12 (f := .glo "law") rfl), F⟩)
  x_NoNumber := (by obtain ⟨h1, h2, h3, h4⟩ := He.exc_ok (c.t.d.fact 13 (f := .exc "NoNumber") rfl); exact ⟨He.glo_ok X G (c.t.d.fact 14 (f := .glo "NoNumber") rfl), h1, h2, h3, h4⟩)
  x_NoRow := (by obtain ⟨h1, h2, h3, h4⟩ := He.exc_ok (c.t.d.fact 15 (f := .exc "NoRow") rfl); exact ⟨He.glo_ok X G (c.t.d.fact 16 (f := .glo "NoRow") rfl), h1, h2, h3, h4⟩)
  g_BoxError := He.glo_ok X G (c.t.d.fact 17 (f := .glo "BoxError") rfl)
  g_NoBook := He.glo_ok X G (c.t.d.fact 18 (f := .glo "NoBook") rfl)
  g_NoCut := He.glo_ok X G (c.t.d.fact 19 (f := .glo "NoCut") rfl)
  g_NoName := He.glo_ok X G (c.t.d.fact 20 (f := .glo "NoName") rfl)
  g_NoNumber := He.glo_ok X G (c.t.d.fact 21 (f := .glo "NoNumber") rfl)
  g_NoRow := He.glo_ok X G (c.t.d.fact 22 (f := .glo "NoRow") rfl)
  g_NoSpan := He.glo_ok X G (c.t.d.fact 23 (f := .glo "NoSpan") rfl)
  g_NoTask := He.glo_ok X G (c.t.d.fact 24 (f := .glo "NoTask") rfl)
  g_TooMuch := He.glo_ok X G (c.t.d.fact 25 (f := .glo "TooMuch") rfl)
  e_NoNumber_BoxError := He.exm_ok (c.t.d.fact 26 (f := .exm "NoNumber" "BoxError" true) rfl)
  e_NoRow_BoxError := He.exm_ok (c.t.d.fact 27 (f := .exm "NoRow" "BoxError" true) rfl)
  ec_NoNumber := excCB_ok (exb_at c.more 0 (f := fun K => excCB K "NoNumber") rfl)
  i_NoNumber_NoBook := of_decide_eq_true (exb_at c.more 1 (f := fun K => decide (PySem.W.kitOne K (.ref (He.ga K "NoNumber")) (.ref (He.ga K "NoBook")) = some false)) rfl)
  i_NoNumber_NoCut := of_decide_eq_true (exb_at c.more 2 (f := fun K => decide (PySem.W.kitOne K (.ref (He.ga K "NoNumber")) (.ref (He.ga K "NoCut")) = some false)) rfl)
  i_NoNumber_NoName := of_decide_eq_true (exb_at c.more 3 (f := fun K => decide (PySem.W.kitOne K (.ref (He.ga K "NoNumber")) (.ref (He.ga K "NoName")) = some false)) rfl)
  i_NoNumber_NoNumber := of_decide_eq_true (exb_at c.more 4 (f := fun K => decide (PySem.W.kitOne K (.ref (He.ga K "NoNumber")) (.ref (He.ga K "NoNumber")) = some true)) rfl)
  i_NoNumber_NoRow := of_decide_eq_true (exb_at c.more 5 (f := fun K => decide (PySem.W.kitOne K (.ref (He.ga K "NoNumber")) (.ref (He.ga K "NoRow")) = some false)) rfl)
  i_NoNumber_NoSpan := of_decide_eq_true (exb_at c.more 6 (f := fun K => decide (PySem.W.kitOne K (.ref (He.ga K "NoNumber")) (.ref (He.ga K "NoSpan")) = some false)) rfl)
  i_NoNumber_NoTask := of_decide_eq_true (exb_at c.more 7 (f := fun K => decide (PySem.W.kitOne K (.ref (He.ga K "NoNumber")) (.ref (He.ga K "NoTask")) = some false)) rfl)
  i_NoNumber_TooMuch := of_decide_eq_true (exb_at c.more 8 (f := fun K => decide (PySem.W.kitOne K (.ref (He.ga K "NoNumber")) (.ref (He.ga K "TooMuch")) = some false)) rfl)
  i_NoNumber_ValueError := of_decide_eq_true (exb_at c.more 9 (f := fun K => decide (PySem.W.kitOne K (.ref (He.ga K "NoNumber")) (.type "ValueError") = some true)) rfl)
  ec_NoRow := excCB_ok (exb_at c.more 10 (f := fun K => excCB K "NoRow") rfl)
  i_NoRow_NoBook := of_decide_eq_true (exb_at c.more 11 (f := fun K => decide (PySem.W.kitOne K (.ref (He.ga K "NoRow")) (.ref (He.ga K "NoBook")) = some false)) rfl)
  i_NoRow_NoCut := of_decide_eq_true (exb_at c.more 12 (f := fun K => decide (PySem.W.kitOne K (.ref (He.ga K "NoRow")) (.ref (He.ga K "NoCut")) = some false)) rfl)
  i_NoRow_NoName := of_decide_eq_true (exb_at c.more 13 (f := fun K => decide (PySem.W.kitOne K (.ref (He.ga K "NoRow")) (.ref (He.ga K "NoName")) = some false)) rfl)
  i_NoRow_NoNumber := of_decide_eq_true (exb_at c.more 14 (f := fun K => decide (PySem.W.kitOne K (.ref (He.ga K "NoRow")) (.ref (He.ga K "NoNumber")) = some false)) rfl)
  i_NoRow_NoRow := of_decide_eq_true (exb_at c.more 15 (f := fun K => decide (PySem.W.kitOne K (.ref (He.ga K "NoRow")) (.ref (He.ga K "NoRow")) = some true)) rfl)
  i_NoRow_NoSpan := of_decide_eq_true (exb_at c.more 16 (f := fun K => decide (PySem.W.kitOne K (.ref (He.ga K "NoRow")) (.ref (He.ga K "NoSpan")) = some false)) rfl)
  i_NoRow_NoTask := of_decide_eq_true (exb_at c.more 17 (f := fun K => decide (PySem.W.kitOne K (.ref (He.ga K "NoRow")) (.ref (He.ga K "NoTask")) = some false)) rfl)
  i_NoRow_TooMuch := of_decide_eq_true (exb_at c.more 18 (f := fun K => decide (PySem.W.kitOne K (.ref (He.ga K "NoRow")) (.ref (He.ga K "TooMuch")) = some false)) rfl)
  i_NoRow_ValueError := of_decide_eq_true (exb_at c.more 19 (f := fun K => decide (PySem.W.kitOne K (.ref (He.ga K "NoRow")) (.type "ValueError") = some true)) rfl)
  v_FIGURES := He.str_ok X G (c.t.d.fact 28 (f := .str "FIGURES" "0123456789") rfl)
  b_abs := He.free_ok X G (c.t.d.fact 29 (f := .free "abs") rfl)
  b_bool := He.free_ok X G (c.t.d.fact 30 (f := .free "bool") rfl)
  b_int := He.free_ok X G (c.t.d.fact 31 (f := .free "int") rfl)
  b_isinstance := He.free_ok X G (c.t.d.fact 32 (f := .free "isinstance") rfl)
  b_len := He.free_ok X G (c.t.d.fact 33 (f := .free "len") rfl)
  b_str := He.free_ok X G (c.t.d.fact 34 (f := .free "str") rfl)
  b_tuple := He.free_ok X G (c.t.d.fact 35 (f := .free "tuple") rfl)
  b_ValueError := He.free_ok X G (c.t.d.fact 36 (f := .free "ValueError") rfl)
end Bx
open PySem PySem.W PySem.Calls PyProof.Rows
set_option maxHeartbeats 0 in
theorem PySem.Challenge.cw_boxnarrow_k11_numbers_written_holds : PySem.Challenge.rw_boxnarrow_k11_numbers_written.Holds := by
  w_on; o_law
  refine HandSHeadRun.head_any (r := OpenLaw.row PySem.Challenge.rw_boxnarrow_k11_numbers_written) (q := view (OpenLaw.row PySem.Challenge.rw_boxnarrow_k11_numbers_written).prog [26]) (H := Bx.hk) (ob := Bx.ob) (M := 20000) (loose := Bx.loose) (d := HandSHeadRun.topDef (OpenLaw.row PySem.Challenge.rw_boxnarrow_k11_numbers_written).prog 26) (kwd := []) Bx.ob_eq
    (by kernel_rfl) (fun s => by kernel_rfl) Bx.run (by kernel_rfl) (by kernel_rfl) (by kernel_rfl) (by rfl) (by first | assumption | decide +kernel) (by decide +kernel) ⟨rfl, rfl, rfl, rfl, rfl, by decide +kernel⟩ ?hw ?hc
  case hw => w_witness2
  case hc =>
    refine Dl.walk_end (l := PySem.Challenge.rw_boxnarrow_k11_numbers_written) (k := Bx.lawLevel) (x := "_law_script") rfl (by decide) ⟨rfl, by decide, by decide⟩ ?F
    intro w mg fa h Y G hmg0
    obtain ⟨K, KX, c⟩ := Y
    have hmg : mg ("law" : PySem.Str) = some (.ref fa) := by
      have e : (HandSHeadRun.topDef (OpenLaw.row PySem.Challenge.rw_boxnarrow_k11_numbers_written).prog 26).name = ("law" : PySem.Str) := by kernel_rfl
      rw [← e]
      exact hmg0
    have T := Bx.top_of KX G c
    obtain ⟨f, fd, hm, Fd⟩ := T.f_law
    rw [hmg] at hm
    cases hm
    have hb := L2.FunD.bindsA (ps := ["_law_script"]) Fd fun _ _ _ _ _ _ us hl => match us, hl with | [_], _ => rfl
    exact ⟨K, fd, KX, fun s u => hb s [u] rfl, fun base _ _ => Bx.ok_law T Fd⟩
