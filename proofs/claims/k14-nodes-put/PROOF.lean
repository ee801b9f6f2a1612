import PyProof.Rows.All
import Wide.All
import OpenK.AllK
import Wide.FinOn
import HandS.ForExc
import HandS.Comp
import HandS.Dict
import HandS.Iter
import HandS.Text
import HandS.Wide
import HandS.Deep
import HandS.Zip
import HandS.Flow
import HandS.IsInst
import HandS.Defaults
import HandS.HeadEnd
import HandS.HeadHook4
import HandS.ExcIs
import KE.KStateDown
import HandS.Head0
import HandS.Head1
import HandS.Head2
import PySem.Challenge.RW_boxnarrow_k14_nodes_put
set_option Elab.async false
set_option linter.all false
set_option maxRecDepth 100000
set_option maxHeartbeats 4000000
/-! Q: data (PyData, as Dp tells it) and cells over the hand layer: judgements that hide the heap. -/
namespace Dl
open PySem PySem.Spec PyProof.Rows L2

/-! ### data stands -/
def Ex (H H' : Hp) : Prop := ∀ a o, H a = some o → H' a = some o
theorem Ex.refl (H : Hp) : Ex H H := fun _ _ h => h
theorem Ex.trans {H H1 H2 : Hp} (a : Ex H H1) (b : Ex H1 H2) : Ex H H2 := fun x o h => b x o (a x o h)
theorem Ex.rd {H H' : Hp} {a : Addr} {u : HO} (e : Ex H H') (h : Rd H a u) : Rd H' a u := by
  rcases h with h | ⟨o, h⟩
  · exact .inl (e _ _ h)
  · exact .inr ⟨o, e _ _ h⟩
theorem Ex.sqL {K : PySem.W.Frag} {H H' : Hp} {a : Addr} {xs : List V} (e : Ex H H') (h : SqL K H a xs) : SqL K H' a xs := by
  rcases h with h | h
  · exact .inl (e.rd h)
  · exact .inr h
theorem Ex.sqT {K : PySem.W.Frag} {H H' : Hp} {a : Addr} {xs : List V} (e : Ex H H') (h : SqT K H a xs) : SqT K H' a xs := by
  rcases h with h | h
  · exact .inl (e.rd h)
  · exact .inr h
mutual
theorem dp_ex {K : PySem.W.Frag} {H H' : Hp} (e : Ex H H') : ∀ {v : V} {d : PyData}, Dp K H v d → Dp K H' v d
  | _, _, .non => .non
  | _, _, .bl b => .bl b
  | _, _, .int i => .int i
  | _, _, .str x => .str x
  | _, _, .lst h r => .lst (e.sqL h) (dpAll_ex e r)
  | _, _, .tup h r => .tup (e.sqT h) (dpAll_ex e r)
theorem dpAll_ex {K : PySem.W.Frag} {H H' : Hp} (e : Ex H H') : ∀ {v : List V} {d : List PyData}, DpAll K H v d → DpAll K H' v d
  | _, _, .nil => .nil
  | _, _, .cons h r => .cons (dp_ex e h) (dpAll_ex e r)
end

/-! ### values and cells -/
/-- a value: data that stands, or a cell (a list, a dict, an instance that may change) -/
inductive SV where
  | d (d : PyData) | c (a : Addr)
abbrev SV.int (i : Int) : SV := .d (.int i)
abbrev SV.str (x : Str) : SV := .d (.str x)
abbrev SV.bl (b : Bool) : SV := .d (.bool b)
abbrev SV.non : SV := .d .none
inductive Cell where
  | lst (xs : List SV) | dK (kvs : List (Key × SV)) | ins (C : Addr) (fs : List (Str × SV))
abbrev Cells := Addr → Option Cell
def cupd (C : Cells) (a : Addr) (c : Cell) : Cells := fun b => if b = a then some c else C b
theorem cupd_same {C : Cells} {a : Addr} {c : Cell} : cupd C a c a = some c := by unfold cupd; rw [if_pos rfl]
theorem cupd_ne {C : Cells} {a b : Addr} {c : Cell} (h : b ≠ a) : cupd C a c b = C b := by unfold cupd; rw [if_neg h]
theorem cupd_upd {C : Cells} {a : Addr} {c u : Cell} : cupd (cupd C a c) a u = cupd C a u := by
  funext b; unfold cupd; split <;> rfl
def cdel (C : Cells) (a : Addr) : Cells := fun b => if b = a then none else C b
theorem cdel_same {C : Cells} {a : Addr} : cdel C a a = none := by unfold cdel; rw [if_pos rfl]
theorem cdel_ne {C : Cells} {a b : Addr} (h : b ≠ a) : cdel C a b = C b := by unfold cdel; rw [if_neg h]
def SAt (K : PySem.W.Frag) (F : Hp) (v : V) : SV → Prop
  | .d d => Dp K F v d
  | .c a => v = .ref a
theorem SAt.ex {K : PySem.W.Frag} {F F' : Hp} (e : Ex F F') {v : V} : ∀ {s : SV}, SAt K F v s → SAt K F' v s
  | .d _, h => dp_ex e h
  | .c _, h => h
abbrev SAll (K : PySem.W.Frag) (F : Hp) : List V → List SV → Prop := Paired (SAt K F)
theorem Paired.imp {α β : Type} {f g : α → β → Prop} (h : ∀ a b, f a b → g a b) : ∀ {xs : List α} {ys : List β}, Paired f xs ys → Paired g xs ys
  | _, _, .nil => .nil
  | _, _, .cons r t => .cons (h _ _ r) (Paired.imp h t)
theorem SAll.ex {K : PySem.W.Frag} {F F' : Hp} (e : Ex F F') {vs : List V} {ss : List SV} (h : SAll K F vs ss) : SAll K F' vs ss := Paired.imp (fun _ _ => SAt.ex e) h
def FAll (K : PySem.W.Frag) (F : Hp) : List (Str × V) → List (Str × SV) → Prop := Paired fun p q => p.1 = q.1 ∧ SAt K F p.2 q.2
def KAll (K : PySem.W.Frag) (F : Hp) : List (Key × V) → List (Key × SV) → Prop := Paired fun p q => p.1 = q.1 ∧ SAt K F p.2 q.2
theorem FAll.ex {K : PySem.W.Frag} {F F' : Hp} (e : Ex F F') {vs : List (Str × V)} {ss : List (Str × SV)} (h : FAll K F vs ss) : FAll K F' vs ss := Paired.imp (fun _ _ z => ⟨z.1, SAt.ex e z.2⟩) h
theorem KAll.ex {K : PySem.W.Frag} {F F' : Hp} (e : Ex F F') {vs : List (Key × V)} {ss : List (Key × SV)} (h : KAll K F vs ss) : KAll K F' vs ss := Paired.imp (fun _ _ z => ⟨z.1, SAt.ex e z.2⟩) h
def CellAt (K : PySem.W.Frag) (F H : Hp) (p : Addr) : Cell → Prop
  | .lst xs => ∃ vs, H p = some (.lst vs) ∧ SAll K F vs xs
  | .dK kvs => ∃ vs, H p = some (.dK vs) ∧ KAll K F vs kvs
  | .ins C fs => ∃ dx vs, H p = some (.ins C dx vs) ∧ FAll K F vs fs
theorem CellAt.ex {K : PySem.W.Frag} {F F' H H' : Hp} {p : Addr} (e : Ex F F') (h : H' p = H p) : ∀ {c : Cell}, CellAt K F H p c → CellAt K F' H' p c
  | .lst _, ⟨vs, a, b⟩ => ⟨vs, h.trans a, SAll.ex e b⟩
  | .dK _, ⟨vs, a, b⟩ => ⟨vs, h.trans a, KAll.ex e b⟩
  | .ins _ _, ⟨dx, vs, a, b⟩ => ⟨dx, vs, h.trans a, FAll.ex e b⟩
theorem CellAt.some {K : PySem.W.Frag} {F H : Hp} {p : Addr} : ∀ {c : Cell}, CellAt K F H p c → ∃ o, H p = some o
  | .lst _, ⟨_, a, _⟩ => ⟨_, a⟩
  | .dK _, ⟨_, a, _⟩ => ⟨_, a⟩
  | .ins _ _, ⟨_, _, a, _⟩ => ⟨_, a⟩

/-! ### steps, states -/
structure Step (F H : Hp) (C : Cells) (F' H' : Hp) (C' : Cells) : Prop where
  exF : Ex F F'
  keep : ∀ p o, H p = some o → C p = none → H' p = some o
  newF : ∀ p, F' p ≠ none → F p ≠ none ∨ H p = none ∨ C p ≠ none
  newC : ∀ p, C' p ≠ none → C p ≠ none ∨ H p = none
theorem Step.refl (F H : Hp) (C : Cells) : Step F H C F H C := ⟨Ex.refl F, fun _ _ h _ => h, fun _ h => .inl h, fun _ h => .inl h⟩
theorem Step.trans {F H F1 H1 F2 H2 : Hp} {C C1 C2 : Cells} (a : Step F H C F1 H1 C1) (b : Step F1 H1 C1 F2 H2 C2) : Step F H C F2 H2 C2 := by
  have dead : ∀ p, H1 p = none → H p = none ∨ C p ≠ none := fun p h1 => by
    cases e : H p with
    | none => exact .inl rfl
    | some o =>
      refine .inr fun z => ?_
      rw [a.keep p o e z] at h1
      cases h1
  refine ⟨a.exF.trans b.exF, fun p o h c => ?_, fun p h => ?_, fun p h => ?_⟩
  · have h1 := a.keep p o h c
    refine b.keep p o h1 ?_
    cases e : C1 p with
    | none => rfl
    | some x =>
      rcases a.newC p (by rw [e]; simp) with z | z
      · exact absurd c z
      · rw [h] at z; cases z
  · rcases b.newF p h with z | z | z
    · exact a.newF p z
    · rcases dead p z with y | y
      · exact .inr (.inl y)
      · exact .inr (.inr y)
    · rcases a.newC p z with y | y
      · exact .inr (.inr y)
      · exact .inr (.inl y)
  · rcases b.newC p h with z | z
    · exact a.newC p z
    · rcases dead p z with y | y
      · exact .inr y
      · exact .inl y

structure G0 (K : PySem.W.Frag) (F H : Hp) (C : Cells) : Prop where
  sub : Ex F H
  dis : ∀ p c, C p = some c → F p = none
  cel : ∀ p c, C p = some c → CellAt K F H p c
abbrev Gm := List (Option SV)
def SlAt (K : PySem.W.Frag) (F : Hp) (σ : L2.St) (Γ : Gm) : Prop := ∀ (i : Nat) (s : SV), Γ[i]? = some (some s) → ∃ v, σ[i]? = some (some v) ∧ SAt K F v s
theorem SlAt.ex {K : PySem.W.Frag} {F F' : Hp} (e : Ex F F') {σ : L2.St} {Γ : Gm} (h : SlAt K F σ Γ) : SlAt K F' σ Γ := fun i s q =>
  let ⟨v, a, b⟩ := h i s q
  ⟨v, a, b.ex e⟩
theorem G0.sl {K : PySem.W.Frag} {F H : Hp} {C : Cells} (g : G0 K F H C) {p : Addr} (h : H p = none) : F p = none ∧ C p = none := by
  refine ⟨?_, ?_⟩
  · cases e : F p with
    | none => rfl
    | some o => rw [g.sub p o e] at h; cases h
  · cases e : C p with
    | none => rfl
    | some c =>
      obtain ⟨o, z⟩ := (g.cel p c e).some
      rw [h] at z; cases z

/-- an error that leaves: its class, its field -/
structure Er where
  cls : Addr
  fld : Option (Str × PyData) := none
def ErAt (K : PySem.W.Frag) (F : Hp) (e : Er) (cls : Value) (dd : Option Addr) : Prop := cls = .ref e.cls ∧ match e.fld with
  | none => dd = none
  | some (f, x) => ∃ a v, dd = some a ∧ F a = some (.xd [(f, v)]) ∧ Dp K F v x

/-- where one stands: the context, the entry, what is wanted of errors -/
structure Rx where
  X : Cx
  F0 : Hp
  H0 : Hp
  C0 : Cells
  er : Gm → Er → Cells → Prop
structure At (R : Rx) (σ : L2.St) (Γ : Gm) (F H : Hp) (C : Cells) : Prop where
  st : Step R.F0 R.H0 R.C0 F H C
  g : G0 R.X.K F H C
  sl : SlAt R.X.K F σ Γ
  ln : σ.length = Γ.length
/-- what is wanted of errors is handed on -/
def Tk (R : Rx) : Prop := ∃ W : WX, Takes R.X W ∧ ∀ σ Γ F H C e cls dd, At R σ Γ F H C → R.er Γ e C → ErAt R.X.K F e cls dd → W cls dd σ H

section
variable {X : Cx}
/-- the weakest readings -/
def wE (X : Cx) (e : Expr) : TE := fun σ H Q => ∀ pins s, Inv X pins σ H s → wpAny (model X.prog X.w) X.A (eval e X.env) (EP X pins σ Q) X.xe s
def wT (X : Cx) (e : Expr) : TT := fun σ H Q => ∀ pins s, Inv X pins σ H s → wpAny (model X.prog X.w) X.A (isTrue e X.env (eval e X.env)) (TP X pins σ Q) X.xe s
def wW (X : Cx) (e : Expr) : TT := fun σ H Q => ∀ (whole : Sem Value) pins s, Inv X pins σ H s → wpAny (model X.prog X.w) X.A (isTrue e X.env whole) (TP X pins σ Q) X.xe s
def wA (X : Cx) (es : List Expr) : TA := fun σ H Q => ∀ (pos : Pos) pins s, Inv X pins σ H s → wpAny (model X.prog X.w) X.A (spliced (backTo pos (starEach es X.env))) (AP X pins σ Q) X.xe s
def wS (X : Cx) (st : Stmt) : TS := fun D σ H => ∀ pins s, Inv X pins σ H s → wpAny (model X.prog X.w) X.A (exec st X.env) (SP X pins D) X.xe s
def wSs (X : Cx) (st : List Stmt) : TS := fun D σ H => ∀ pins s, Inv X pins σ H s → wpAny (model X.prog X.w) X.A (execs st X.env) (SP X pins D) X.xe s
theorem pe_w {e : Expr} : PE X e (wE X e) := ⟨fun pins s σ H Q I h => h pins s I⟩
theorem pt_w {e : Expr} : PT X e (wT X e) := ⟨fun pins s σ H Q I h => h pins s I⟩
theorem pw_w {e : Expr} : PW X e (wW X e) := ⟨fun w pins s σ H Q I h => h w pins s I⟩
theorem pa_w {es : List Expr} : PA X es (wA X es) := ⟨fun p pins s σ H Q I h => h p pins s I⟩
theorem ps_w {st : Stmt} : PS X st (wS X st) := ⟨fun pins s σ H D I h => h pins s I⟩
theorem pss_w {st : List Stmt} : PSs X st (wSs X st) := ⟨fun pins s σ H D I h => h pins s I⟩
theorem wE_of {e : Expr} {t : TE} (p : PE X e t) {σ : L2.St} {H : Hp} {Q : VK} (h : t σ H Q) : wE X e σ H Q := fun pins s I => p.run pins s σ H Q I h
theorem wT_of {e : Expr} {t : TT} (p : PT X e t) {σ : L2.St} {H : Hp} {Q : Bool → Hp → Prop} (h : t σ H Q) : wT X e σ H Q := fun pins s I => p.run pins s σ H Q I h
theorem wW_of {e : Expr} {t : TT} (p : PW X e t) {σ : L2.St} {H : Hp} {Q : Bool → Hp → Prop} (h : t σ H Q) : wW X e σ H Q := fun w pins s I => p.run w pins s σ H Q I h
theorem wA_of {es : List Expr} {t : TA} (p : PA X es t) {σ : L2.St} {H : Hp} {Q : List V → Hp → Prop} (h : t σ H Q) : wA X es σ H Q := fun pos pins s I => p.run pos pins s σ H Q I h
theorem wS_of {e : Stmt} {t : TS} (p : PS X e t) {D : Ends} {σ : L2.St} {H : Hp} (h : t D σ H) : wS X e D σ H := fun pins s I => p.run pins s σ H D I h
theorem wSs_of {e : List Stmt} {t : TS} (p : PSs X e t) {D : Ends} {σ : L2.St} {H : Hp} (h : t D σ H) : wSs X e D σ H := fun pins s I => p.run pins s σ H D I h
end

/-! ### the judgements -/
section
variable (R : Rx)
def EE (e : Expr) (Γ : Gm) (C : Cells) (Q : SV → Cells → Prop) : Prop := ∀ σ F H, At R σ Γ F H C → ∀ QV : VK, (∀ v s F' H' C', At R σ Γ F' H' C' → SAt R.X.K F' v s → Ex F F' → Q s C' → QV v H') → wE R.X e σ H QV
def EA (es : List Expr) (Γ : Gm) (C : Cells) (Q : List SV → Cells → Prop) : Prop := ∀ σ F H, At R σ Γ F H C → ∀ QV : List V → Hp → Prop, (∀ vs ss F' H' C', At R σ Γ F' H' C' → SAll R.X.K F' vs ss → Ex F F' → Q ss C' → QV vs H') → wA R.X es σ H QV
def ET (e : Expr) (Γ : Gm) (C : Cells) (Q : Bool → Cells → Prop) : Prop := ∀ σ F H, At R σ Γ F H C → ∀ QV : Bool → Hp → Prop, (∀ b F' H' C', At R σ Γ F' H' C' → Ex F F' → Q b C' → QV b H') → wT R.X e σ H QV
def EW (e : Expr) (Γ : Gm) (C : Cells) (Q : Bool → Cells → Prop) : Prop := ∀ σ F H, At R σ Γ F H C → ∀ QV : Bool → Hp → Prop, (∀ b F' H' C', At R σ Γ F' H' C' → Ex F F' → Q b C' → QV b H') → wW R.X e σ H QV
/-- what is wanted behind a statement -/
structure Nx where
  nx : Gm → Cells → Prop
  rt : SV → Cells → Prop
  bk : Gm → Cells → Prop := fun _ _ => False
  ct : Gm → Cells → Prop := fun _ _ => False
structure Ok (N : Nx) (F : Hp) (D : Ends) : Prop where
  nx : ∀ σ Γ F' H C, At R σ Γ F' H C → Ex F F' → N.nx Γ C → D.nx σ H
  rt : ∀ σ Γ F' H C v s, At R σ Γ F' H C → Ex F F' → SAt R.X.K F' v s → N.rt s C → D.rt v H
  bk : ∀ σ Γ F' H C, At R σ Γ F' H C → Ex F F' → N.bk Γ C → D.bk σ H
  ct : ∀ σ Γ F' H C, At R σ Γ F' H C → Ex F F' → N.ct Γ C → D.ct σ H
theorem Ok.ex {R : Rx} {N : Nx} {F F' : Hp} {D : Ends} (h : Ok R N F D) (e : Ex F F') : Ok R N F' D :=
  ⟨fun σ Γ F2 H C a e2 => h.nx σ Γ F2 H C a (e.trans e2), fun σ Γ F2 H C v s a e2 => h.rt σ Γ F2 H C v s a (e.trans e2), fun σ Γ F2 H C a e2 => h.bk σ Γ F2 H C a (e.trans e2), fun σ Γ F2 H C a e2 => h.ct σ Γ F2 H C a (e.trans e2)⟩
def SS (ss : List Stmt) (Γ : Gm) (C : Cells) (N : Nx) : Prop := ∀ σ F H, At R σ Γ F H C → ∀ D : Ends, Ok R N F D → wSs R.X ss D σ H
def S1 (st : Stmt) (Γ : Gm) (C : Cells) (N : Nx) : Prop := ∀ σ F H, At R σ Γ F H C → ∀ D : Ends, Ok R N F D → wS R.X st D σ H
end

section
variable {R : Rx} {Γ : Gm} {C C' : Cells} {σ : L2.St} {F H F' H' : Hp}
/-- a step of the machine from a state -/
theorem At.step (a : At R σ Γ F H C) (s : Step F H C F' H' C') (g : G0 R.X.K F' H' C') : At R σ Γ F' H' C' := ⟨a.st.trans s, g, a.sl.ex s.exF, a.ln⟩
/-- the heap grows by what nothing tells of -/
theorem At.more (a : At R σ Γ F H C) (e : Ex H H') : At R σ Γ F H' C := by
  refine a.step ⟨Ex.refl F, fun p o h _ => e p o h, fun _ h => .inl h, fun _ h => .inl h⟩ ⟨a.g.sub.trans e, a.g.dis, fun p c h => ?_⟩
  have q := a.g.cel p c h
  obtain ⟨o, z⟩ := q.some
  exact q.ex (Ex.refl F) ((e p o z).trans z.symm)
/-- a new datum stands -/
theorem At.lay (a : At R σ Γ F H C) {p : Addr} {o : HO} (hp : H p = none) : At R σ Γ (upd F p o) (upd H p o) C ∧ Ex F (upd F p o) := by
  have fp := (a.g.sl hp).1
  have eF : Ex F (upd F p o) := fun b u e => by rw [upd_ne (ne_of_none e fp)]; exact e
  have eH : Ex H (upd H p o) := fun b u e => by rw [upd_ne (ne_of_none e hp)]; exact e
  refine ⟨a.step ⟨eF, fun b u e _ => eH b u e, fun b h => ?_, fun _ h => .inl h⟩ ⟨fun b u e => ?_, fun b c e => ?_, fun b c e => ?_⟩, eF⟩
  · by_cases hb : b = p
    · subst hb; exact .inr (.inl hp)
    · rw [upd_ne hb] at h; exact .inl h
  · by_cases hb : b = p
    · subst hb; rw [upd_same] at e; rw [upd_same]; exact e
    · rw [upd_ne hb] at e; rw [upd_ne hb]; exact a.g.sub b u e
  · have hb : b ≠ p := fun z => by subst z; rw [(a.g.sl hp).2] at e; cases e
    rw [upd_ne hb]; exact a.g.dis b c e
  · have hb : b ≠ p := fun z => by subst z; rw [(a.g.sl hp).2] at e; cases e
    exact (a.g.cel b c e).ex eF (upd_ne hb)
/-- a new cell -/
theorem At.cell (a : At R σ Γ F H C) {p : Addr} {o : HO} {c : Cell} (hp : H p = none) (hc : CellAt R.X.K F (upd H p o) p c) : At R σ Γ F (upd H p o) (cupd C p c) := by
  have eH : Ex H (upd H p o) := fun b u e => by rw [upd_ne (ne_of_none e hp)]; exact e
  refine a.step ⟨Ex.refl F, fun b u e _ => eH b u e, fun _ h => .inl h, fun b h => ?_⟩ ⟨a.g.sub.trans eH, fun b c' e => ?_, fun b c' e => ?_⟩
  · by_cases hb : b = p
    · subst hb; exact .inr hp
    · rw [cupd_ne hb] at h; exact .inl h
  · by_cases hb : b = p
    · subst hb; exact (a.g.sl hp).1
    · rw [cupd_ne hb] at e; exact a.g.dis b c' e
  · by_cases hb : b = p
    · subst hb; rw [cupd_same] at e; cases e; exact hc
    · rw [cupd_ne hb] at e; exact (a.g.cel b c' e).ex (Ex.refl F) (upd_ne hb)
/-- a cell changes -/
theorem At.put (a : At R σ Γ F H C) {p : Addr} {o : HO} {c c0 : Cell} (h0 : C p = some c0) (hc : CellAt R.X.K F (upd H p o) p c) : At R σ Γ F (upd H p o) (cupd C p c) := by
  have fp := a.g.dis p c0 h0
  refine a.step ⟨Ex.refl F, fun b u e n => ?_, fun _ h => .inl h, fun b h => ?_⟩ ⟨fun b u e => ?_, fun b c' e => ?_, fun b c' e => ?_⟩
  · have hb : b ≠ p := fun z => by subst z; rw [h0] at n; cases n
    rw [upd_ne hb]; exact e
  · by_cases hb : b = p
    · subst hb; exact .inl (by rw [h0]; simp)
    · rw [cupd_ne hb] at h; exact .inl h
  · rw [upd_ne (ne_of_none e fp)]; exact a.g.sub b u e
  · by_cases hb : b = p
    · subst hb; exact fp
    · rw [cupd_ne hb] at e; exact a.g.dis b c' e
  · by_cases hb : b = p
    · subst hb; rw [cupd_same] at e; cases e; exact hc
    · rw [cupd_ne hb] at e; exact (a.g.cel b c' e).ex (Ex.refl F) (upd_ne hb)
/-- a cell is forgotten -/
theorem At.drop (a : At R σ Γ F H C) (h : ∀ p c, C' p = some c → C p = some c) : At R σ Γ F H C' :=
  a.step ⟨Ex.refl F, fun _ _ h _ => h, fun _ h => .inl h, fun p n => .inl (by
    cases e : C' p with
    | none => exact absurd e n
    | some c => rw [h p c e]; simp)⟩ ⟨a.g.sub, fun p c e => a.g.dis p c (h p c e), fun p c e => a.g.cel p c (h p c e)⟩
theorem sall_dp {K : PySem.W.Frag} {F : Hp} : ∀ {vs : List V} {ds : List PyData}, SAll K F vs (ds.map SV.d) → DpAll K F vs ds
  | [], [], _ => .nil
  | _ :: _, _ :: _, .cons r t => .cons r (sall_dp t)
theorem dp_sall {K : PySem.W.Frag} {F : Hp} : ∀ {vs : List V} {ds : List PyData}, DpAll K F vs ds → SAll K F vs (ds.map SV.d)
  | _, _, .nil => .nil
  | _, _, .cons r t => .cons r (dp_sall t)
theorem At.freeze (a : At R σ Γ F H C) {p : Addr} {ds : List PyData} (hc : C p = some (.lst (ds.map SV.d))) : ∃ F', At R σ Γ F' H (cdel C p) ∧ Ex F F' ∧ Dp R.X.K F' (.ref p) (.list ds) := by
  obtain ⟨vs, hv, r⟩ := a.g.cel p _ hc
  have fp := a.g.dis p _ hc
  have eF : Ex F (upd F p (.lst vs)) := fun b u e => by rw [upd_ne (ne_of_none e fp)]; exact e
  refine ⟨upd F p (.lst vs), a.step ⟨eF, fun _ _ h _ => h, fun b h => ?_, fun b h => ?_⟩ ⟨fun b u e => ?_, fun b c e => ?_, fun b c e => ?_⟩, eF, .lst (.inl (.inl upd_same)) (dpAll_ex eF (sall_dp r))⟩
  · by_cases hb : b = p
    · subst hb; exact .inr (.inr (by rw [hc]; simp))
    · rw [upd_ne hb] at h; exact .inl h
  · by_cases hb : b = p
    · subst hb; rw [cdel_same] at h; exact absurd rfl h
    · rw [cdel_ne hb] at h; exact .inl h
  · by_cases hb : b = p
    · subst hb; rw [upd_same] at e; cases e; exact hv
    · rw [upd_ne hb] at e; exact a.g.sub b u e
  · by_cases hb : b = p
    · subst hb; rw [cdel_same] at e; cases e
    · rw [cdel_ne hb] at e; rw [upd_ne hb]; exact a.g.dis b c e
  · by_cases hb : b = p
    · subst hb; rw [cdel_same] at e; cases e
    · rw [cdel_ne hb] at e; exact (a.g.cel b c e).ex eF rfl
end
end Dl

namespace Dl
open PySem PySem.Spec PyProof.Rows L2
section
variable {R : Rx} {Γ : Gm} {C C' : Cells} {σ : L2.St} {F H F' H' : Hp}

/-! ### evaluates to -/
def EV (R : Rx) (e : Expr) (Γ : Gm) (C : Cells) (s : SV) : Prop := ∀ Q : SV → Cells → Prop, Q s C → EE R e Γ C Q
def AV (R : Rx) (es : List Expr) (Γ : Gm) (C : Cells) (ss : List SV) : Prop := ∀ Q : List SV → Cells → Prop, Q ss C → EA R es Γ C Q
def TV (R : Rx) (e : Expr) (Γ : Gm) (C : Cells) (b : Bool) : Prop := ∀ Q : Bool → Cells → Prop, Q b C → ET R e Γ C Q
def WV (R : Rx) (e : Expr) (Γ : Gm) (C : Cells) (b : Bool) : Prop := ∀ Q : Bool → Cells → Prop, Q b C → EW R e Γ C Q
theorem EE.imp {e : Expr} {Q Q' : SV → Cells → Prop} (h : EE R e Γ C Q) (k : ∀ s C', Q s C' → Q' s C') : EE R e Γ C Q' := fun σ F H a QV q => h σ F H a QV fun v s F' H' C' a' r e z => q v s F' H' C' a' r e (k _ _ z)
theorem EA.imp {e : List Expr} {Q Q' : List SV → Cells → Prop} (h : EA R e Γ C Q) (k : ∀ s C', Q s C' → Q' s C') : EA R e Γ C Q' := fun σ F H a QV q => h σ F H a QV fun v s F' H' C' a' r e z => q v s F' H' C' a' r e (k _ _ z)
theorem ET.imp {e : Expr} {Q Q' : Bool → Cells → Prop} (h : ET R e Γ C Q) (k : ∀ s C', Q s C' → Q' s C') : ET R e Γ C Q' := fun σ F H a QV q => h σ F H a QV fun b F' H' C' a' e z => q b F' H' C' a' e (k _ _ z)
/-- garbage goes -/
theorem EE.drop {e : Expr} {Q : SV → Cells → Prop} (h : EE R e Γ C (fun s C' => ∃ C'', (∀ p c, C'' p = some c → C' p = some c) ∧ Q s C'')) : EE R e Γ C Q := fun σ F H a QV q => h σ F H a QV fun v s F' H' C' a' r e ⟨C'', hs, z⟩ => q v s F' H' C'' (a'.drop hs) r e z
/-- a list cell becomes data -/
theorem EE.freeze {e : Expr} {Q : SV → Cells → Prop} (h : EE R e Γ C (fun s C' => ∃ p ds, s = .c p ∧ C' p = some (.lst (ds.map SV.d)) ∧ Q (.d (.list ds)) (cdel C' p))) : EE R e Γ C Q := fun σ F H a QV q => h σ F H a QV fun v s F' H' C' a' r e ⟨p, ds, es, hc, z⟩ => by
  subst es
  obtain ⟨F2, a2, e2, d2⟩ := a'.freeze hc
  have r' : v = .ref p := r
  subst r'
  exact q _ (.d (.list ds)) F2 H' _ a2 d2 (e.trans e2) z

/-! ### shapes -/
section
variable {K : PySem.W.Frag} {v : V}
theorem sat_int {i : Int} (h : SAt K F v (.d (.int i))) : v = .int i := by cases (show Dp K F v (.int i) from h); rfl
theorem sat_bl {b : Bool} (h : SAt K F v (.d (.bool b))) : v = .bl b := by cases (show Dp K F v (.bool b) from h); rfl
theorem sat_str {x : Str} (h : SAt K F v (.d (.str x))) : v = .str x := by cases (show Dp K F v (.str x) from h); rfl
theorem sat_non (h : SAt K F v (.d .none)) : v = .non := by cases (show Dp K F v .none from h); rfl
theorem sat_tup {ds : List PyData} (h : SAt K F v (.d (.tuple ds))) : ∃ a xs, v = .ref a ∧ SqT K F a xs ∧ DpAll K F xs ds := by
  cases (show Dp K F v (.tuple ds) from h) with
  | tup s r => exact ⟨_, _, rfl, s, r⟩
theorem sat_lst {ds : List PyData} (h : SAt K F v (.d (.list ds))) : ∃ a xs, v = .ref a ∧ SqL K F a xs ∧ DpAll K F xs ds := by
  cases (show Dp K F v (.list ds) from h) with
  | lst s r => exact ⟨_, _, rfl, s, r⟩
theorem dpAll_len : ∀ {xs : List V} {ds : List PyData}, DpAll K F xs ds → xs.length = ds.length
  | _, _, .nil => rfl
  | _, _, .cons _ t => congrArg (· + 1) (dpAll_len t)
theorem dpAll_get : ∀ {xs : List V} {ds : List PyData} {i : Nat} {d : PyData}, DpAll K F xs ds → ds[i]? = some d → ∃ v, xs[i]? = some v ∧ Dp K F v d
  | _, _, _, _, .nil, e => by simp at e
  | _, _, 0, _, .cons r _, e => by simp at e; subst e; exact ⟨_, rfl, r⟩
  | _, _, i + 1, d, .cons _ t, e => by
    obtain ⟨u, h1, h2⟩ := dpAll_get (i := i) (d := d) t (by simpa using e)
    exact ⟨u, by simpa using h1, h2⟩
theorem dpAll_get' : ∀ {xs : List V} {ds : List PyData} {i : Nat} {v : V}, DpAll K F xs ds → xs[i]? = some v → ∃ d, ds[i]? = some d ∧ Dp K F v d
  | _, _, _, _, .nil, e => by simp at e
  | _, _, 0, _, .cons r _, e => by simp at e; subst e; exact ⟨_, rfl, r⟩
  | _, _, i + 1, d, .cons _ t, e => by
    obtain ⟨u, h1, h2⟩ := dpAll_get' (i := i) t (by simpa using e)
    exact ⟨u, by simpa using h1, h2⟩
theorem sall_get {s : SV} : ∀ {xs : List V} {ds : List SV} {i : Nat}, SAll K F xs ds → ds[i]? = some s → ∃ v, xs[i]? = some v ∧ SAt K F v s
  | _, _, _, .nil, e => by simp at e
  | _, _, 0, .cons r _, e => by simp at e; subst e; exact ⟨_, rfl, r⟩
  | _, _, i + 1, .cons _ t, e => by
    obtain ⟨u, h1, h2⟩ := sall_get (i := i) t (by simpa using e)
    exact ⟨u, by simpa using h1, h2⟩
theorem dpAll_atI {xs : List V} {ds : List PyData} {i : Int} {d : PyData} (r : DpAll K F xs ds) (e : atI ds i = some d) : ∃ v, atI xs i = some v ∧ Dp K F v d := by
  unfold atI at e ⊢
  rw [dpAll_len r]
  cases q : ixN ds.length i with
  | none => rw [q] at e; cases e
  | some j =>
    rw [q] at e
    obtain ⟨v, h1, h2⟩ := dpAll_get r (show ds[j]? = some d from e)
    exact ⟨v, h1, h2⟩
theorem sall_atI {xs : List V} {ds : List SV} {i : Int} {d : SV} (r : SAll K F xs ds) (e : atI ds i = some d) : ∃ v, atI xs i = some v ∧ SAt K F v d := by
  unfold atI at e ⊢
  rw [Paired.length r]
  cases q : ixN ds.length i with
  | none => rw [q] at e; cases e
  | some j =>
    rw [q] at e
    obtain ⟨v, h1, h2⟩ := sall_get r (show ds[j]? = some d from e)
    exact ⟨v, h1, h2⟩
theorem dpAll_append : ∀ {xs ys : List V} {ds es : List PyData}, DpAll K F xs ds → DpAll K F ys es → DpAll K F (xs ++ ys) (ds ++ es)
  | _, _, _, _, .nil, h => h
  | _, _, _, _, .cons r t, h => .cons r (dpAll_append t h)
theorem dpAll_take : ∀ {xs : List V} {ds : List PyData} (n : Nat), DpAll K F xs ds → DpAll K F (xs.take n) (ds.take n)
  | _, _, 0, _ => .nil
  | _, _, _ + 1, .nil => .nil
  | _, _, n + 1, .cons r t => .cons r (dpAll_take n t)
theorem dpAll_drop : ∀ {xs : List V} {ds : List PyData} (n : Nat), DpAll K F xs ds → DpAll K F (xs.drop n) (ds.drop n)
  | _, _, 0, h => h
  | _, _, _ + 1, .nil => .nil
  | _, _, n + 1, .cons r t => dpAll_drop n t
theorem sall_append {xs ys : List V} {ds es : List SV} (h : SAll K F xs ds) (h2 : SAll K F ys es) : SAll K F (xs ++ ys) (ds ++ es) := by
  induction h with
  | nil => exact h2
  | cons r t ih => exact .cons r ih
theorem sall_set {xs : List V} {ds : List SV} {v : V} {s : SV} (h : SAll K F xs ds) (r : SAt K F v s) : ∀ i : Nat, SAll K F (xs.set i v) (ds.set i s) := by
  induction h with
  | nil => intro i; exact .nil
  | cons q t ih =>
    intro i
    cases i with
    | zero => exact .cons r t
    | succ i => exact .cons q (ih i)
end

/-! ### names, constants -/
theorem ee_v (i : Nat) {s : SV} {x : Str} {pos : Pos} {Q : SV → Cells → Prop} (h : Γ[i]? = some (some s)) (q : Q s C) (hN : R.X.N[i]? = some x := by rfl) (hv : Vis R.X.env.scope x := by first | exact Or.inl rfl | exact Or.inr (Or.inl rfl) | exact Or.inr (Or.inr rfl))
    (hd : (x == ("__debug__" : Str)) = false := by decide) (hcd : (x == ("__classdict__" : Str)) = false := by decide) : EE R (.Name x pos) Γ C Q := fun σ F H a QV k => by
  obtain ⟨v, e, r⟩ := a.sl i s h
  exact wE_of (pe_var hN hv hd hcd) ⟨v, e, k v s F H C a r (Ex.refl F) q⟩
theorem ev_v (i : Nat) {s : SV} {x : Str} {pos : Pos} (h : Γ[i]? = some (some s) := by rfl) (hN : R.X.N[i]? = some x := by rfl) (hv : Vis R.X.env.scope x := by first | exact Or.inl rfl | exact Or.inr (Or.inl rfl) | exact Or.inr (Or.inr rfl))
    (hd : (x == ("__debug__" : Str)) = false := by decide) (hcd : (x == ("__classdict__" : Str)) = false := by decide) : EV R (.Name x pos) Γ C s := fun Q q => ee_v i h q hN hv hd hcd
theorem ev_int {i j pos} : EV R (.Constant (.int i) j pos) Γ C (.int i) := fun Q q σ F H a QV k => wE_of pe_int (k _ (.d (.int i)) F H C a (.int i) (Ex.refl F) q)
theorem ev_bl {i j pos} : EV R (.Constant (.bool i) j pos) Γ C (.bl i) := fun Q q σ F H a QV k => wE_of pe_bl (k _ (.d (.bool i)) F H C a (.bl i) (Ex.refl F) q)
theorem ev_str {i j pos} : EV R (.Constant (.str i) j pos) Γ C (.str i) := fun Q q σ F H a QV k => wE_of pe_str (k _ (.d (.str i)) F H C a (.str i) (Ex.refl F) q)
theorem ev_non {j pos} : EV R (.Constant .none j pos) Γ C .non := fun Q q σ F H a QV k => wE_of pe_non (k _ (.d .none) F H C a .non (Ex.refl F) q)
/-- a module's int, text -/
theorem ev_gint {x : Str} {i : Int} {pos : Pos} (hm : ∃ t, R.X.mg x = some (.int i t)) (hg : Gl R.X x := by rfl) (hd : (x == ("__debug__" : Str)) = false := by decide) : EV R (.Name x pos) Γ C (.int i) := fun Q q σ F H a QV k => by
  obtain ⟨t, hm⟩ := hm
  exact wE_of (pe_glob (v := .int i) hg hm ⟨t, rfl⟩ hd) (k _ (.d (.int i)) F H C a (.int i) (Ex.refl F) q)
theorem ev_gstr {x y : Str} {pos : Pos} (hm : ∃ t, R.X.mg x = some (.str y t)) (hg : Gl R.X x := by rfl) (hd : (x == ("__debug__" : Str)) = false := by decide) : EV R (.Name x pos) Γ C (.str y) := fun Q q σ F H a QV k => by
  obtain ⟨t, hm⟩ := hm
  exact wE_of (pe_glob (v := .str y) hg hm ⟨t, rfl⟩ hd) (k _ (.d (.str y)) F H C a (.str y) (Ex.refl F) q)
/-- a module's tuple, list -/
theorem ev_gref {x : Str} {b : Addr} {d : PyData} {pos : Pos} (hm : R.X.mg x = some (.ref b)) (hd' : ∀ F, Dp R.X.K F (.ref b) d) (hg : Gl R.X x := by rfl) (hd : (x == ("__debug__" : Str)) = false := by decide) : EV R (.Name x pos) Γ C (.d d) := fun Q q σ F H a QV k => by
  exact wE_of (pe_glob (v := .ref b) hg hm rfl hd) (k _ (.d d) F H C a (hd' F) (Ex.refl F) q)

/-! ### two-place operations -/
/-- what an operation makes of two values -/
def OV (R : Rx) (Γ : Gm) (C : Cells) (r : R2) (x y z : SV) : Prop := ∀ σ F H, At R σ Γ F H C → ∀ v u, SAt R.X.K F v x → SAt R.X.K F u y → ∀ QV : VK, (∀ w F' H', At R σ Γ F' H' C → SAt R.X.K F' w z → Ex F F' → QV w H') → r v u H QV
theorem ev_op2 {e a b : Expr} {r : R2} {x y z : SV} (pe : PE R.X e (tOp r (wE R.X a) (wE R.X b))) (ha : EV R a Γ C x) (hb : EV R b Γ C y) (o : OV R Γ C r x y z) : EV R e Γ C z := fun Q q σ F H at0 QV k => by
  refine wE_of pe ?_
  refine ha (fun s C' => s = x ∧ C' = C) ⟨rfl, rfl⟩ σ F H at0 _ fun v s F1 H1 C1 a1 r1 e1 h1 => ?_
  obtain ⟨rfl, rfl⟩ := h1
  refine hb (fun s C' => s = y ∧ C' = C1) ⟨rfl, rfl⟩ σ F1 H1 a1 _ fun u s2 F2 H2 C2 a2 r2 e2 h2 => ?_
  obtain ⟨rfl, rfl⟩ := h2
  exact o σ F2 H2 a2 v u (r1.ex e2) r2 QV fun w F3 H3 a3 r3 e3 => k w z F3 H3 C2 a3 r3 ((e1.trans e2).trans e3) q
theorem tv_op2 {e a b : Expr} {r : R2} {x y : SV} {c : Bool} (pt : PT R.X e (tTest (tOp r (wE R.X a) (wE R.X b)))) (ha : EV R a Γ C x) (hb : EV R b Γ C y) (o : OV R Γ C r x y (.bl c)) : TV R e Γ C c := fun Q q σ F H at0 QV k => by
  refine wT_of pt ?_
  refine ha (fun s C' => s = x ∧ C' = C) ⟨rfl, rfl⟩ σ F H at0 _ fun v s F1 H1 C1 a1 r1 e1 h1 => ?_
  obtain ⟨rfl, rfl⟩ := h1
  refine hb (fun s C' => s = y ∧ C' = C1) ⟨rfl, rfl⟩ σ F1 H1 a1 _ fun u s2 F2 H2 C2 a2 r2 e2 h2 => ?_
  obtain ⟨rfl, rfl⟩ := h2
  exact o σ F2 H2 a2 v u (r1.ex e2) r2 _ fun w F3 H3 a3 r3 e3 => ⟨c, sat_bl r3, k c F3 H3 C2 a3 ((e1.trans e2).trans e3) q⟩
/-- values given out as they are: nothing is laid -/
theorem ov_I0 {g : Int → Int → V} {i j : Int} {z : SV} (hz : ∀ K F, SAt K F (g i j) z) : OV R Γ C (rI0 g) (.int i) (.int j) z := fun σ F H a v u r1 r2 QV k => by
  rw [sat_int r1, sat_int r2]
  exact ⟨i, j, rfl, rfl, k _ F H a (hz _ _) (Ex.refl F)⟩
theorem ov_I {c : Int → Int → Prop} {g : Int → Int → V} {i j : Int} {z : SV} (hc : c i j) (hz : ∀ K F, SAt K F (g i j) z) : OV R Γ C (rI c g) (.int i) (.int j) z := fun σ F H a v u r1 r2 QV k => by
  rw [sat_int r1, sat_int r2]
  exact ⟨i, j, rfl, rfl, hc, k _ F H a (hz _ _) (Ex.refl F)⟩
section
variable {a b : Expr} {pos : Pos} {i j : Int}
theorem ev_add (ha : EV R a Γ C (.int i)) (hb : EV R b Γ C (.int j)) : EV R (.BinOp a .Add b pos) Γ C (.int (i + j)) := ev_op2 (pe_op op_add pe_w pe_w) ha hb (ov_I0 fun _ _ => .int _)
theorem ev_sub (ha : EV R a Γ C (.int i)) (hb : EV R b Γ C (.int j)) : EV R (.BinOp a .Sub b pos) Γ C (.int (i - j)) := ev_op2 (pe_op op_sub pe_w pe_w) ha hb (ov_I0 fun _ _ => .int _)
theorem ev_mul (ha : EV R a Γ C (.int i)) (hb : EV R b Γ C (.int j)) (h : CMulW i j) : EV R (.BinOp a .Mult b pos) Γ C (.int (i * j)) := ev_op2 (pe_op op_mulW pe_w pe_w) ha hb (ov_I h fun _ _ => .int _)
/-- one factor is small -/
theorem ev_mulS (ha : EV R a Γ C (.int i)) (hb : EV R b Γ C (.int j)) (h : CMul i j) : EV R (.BinOp a .Mult b pos) Γ C (.int (i * j)) := ev_op2 (pe_op op_mul pe_w pe_w) ha hb (ov_I h fun _ _ => .int _)
theorem ev_div (ha : EV R a Γ C (.int i)) (hb : EV R b Γ C (.int j)) (h : CDivW i j) : EV R (.BinOp a .FloorDiv b pos) Γ C (.int (i / j)) := ev_op2 (pe_op op_fdivW pe_w pe_w) ha hb (ov_I h fun _ _ => .int _)
theorem ev_mod (ha : EV R a Γ C (.int i)) (hb : EV R b Γ C (.int j)) (h : 0 < j) : EV R (.BinOp a .Mod b pos) Γ C (.int (i % j)) := ev_op2 (pe_op op_mod pe_w pe_w) ha hb (ov_I h fun _ _ => .int _)
theorem ev_pow (ha : EV R a Γ C (.int i)) (hb : EV R b Γ C (.int j)) (h : CPow i j) : EV R (.BinOp a .Pow b pos) Γ C (.int (i ^ j.toNat)) := ev_op2 (pe_op op_pow pe_w pe_w) ha hb (ov_I h fun _ _ => .int _)
theorem ev_lt (ha : EV R a Γ C (.int i)) (hb : EV R b Γ C (.int j)) : EV R (.Compare a [.Lt] [b] pos) Γ C (.bl (decide (i < j))) := ev_op2 (pe_cmpR op_lt pe_w pe_w (nomark _)) ha hb (ov_I0 fun _ _ => .bl _)
theorem ev_le (ha : EV R a Γ C (.int i)) (hb : EV R b Γ C (.int j)) : EV R (.Compare a [.LtE] [b] pos) Γ C (.bl (decide (i ≤ j))) := ev_op2 (pe_cmpR op_le pe_w pe_w (nomark _)) ha hb (ov_I0 fun _ _ => .bl _)
theorem ev_gt (ha : EV R a Γ C (.int i)) (hb : EV R b Γ C (.int j)) : EV R (.Compare a [.Gt] [b] pos) Γ C (.bl (decide (j < i))) := ev_op2 (pe_cmpR op_gt pe_w pe_w (nomark _)) ha hb (ov_I0 fun _ _ => .bl _)
theorem ev_ge (ha : EV R a Γ C (.int i)) (hb : EV R b Γ C (.int j)) : EV R (.Compare a [.GtE] [b] pos) Γ C (.bl (decide (j ≤ i))) := ev_op2 (pe_cmpR op_ge pe_w pe_w (nomark _)) ha hb (ov_I0 fun _ _ => .bl _)
theorem tv_lt (ha : EV R a Γ C (.int i)) (hb : EV R b Γ C (.int j)) : TV R (.Compare a [.Lt] [b] pos) Γ C (decide (i < j)) := tv_op2 (pt_cmpR op_lt pe_w pe_w (nomark _)) ha hb (ov_I0 fun _ _ => .bl _)
theorem tv_le (ha : EV R a Γ C (.int i)) (hb : EV R b Γ C (.int j)) : TV R (.Compare a [.LtE] [b] pos) Γ C (decide (i ≤ j)) := tv_op2 (pt_cmpR op_le pe_w pe_w (nomark _)) ha hb (ov_I0 fun _ _ => .bl _)
theorem tv_gt (ha : EV R a Γ C (.int i)) (hb : EV R b Γ C (.int j)) : TV R (.Compare a [.Gt] [b] pos) Γ C (decide (j < i)) := tv_op2 (pt_cmpR op_gt pe_w pe_w (nomark _)) ha hb (ov_I0 fun _ _ => .bl _)
theorem tv_ge (ha : EV R a Γ C (.int i)) (hb : EV R b Γ C (.int j)) : TV R (.Compare a [.GtE] [b] pos) Γ C (decide (j ≤ i)) := tv_op2 (pt_cmpR op_ge pe_w pe_w (nomark _)) ha hb (ov_I0 fun _ _ => .bl _)
/-- == of scalars of one kind -/
theorem ov_eqI {x y : Int} : OV R Γ C rEq (.int x) (.int y) (.bl (decide (x = y))) := fun σ F H a v u r1 r2 QV k => by
  rw [sat_int r1, sat_int r2]
  have e : decide (V.int x = V.int y) = decide (x = y) := by simp
  exact ⟨rfl, by rw [e]; exact k _ F H a (Dp.bl _) (Ex.refl F)⟩
theorem ov_neI {x y : Int} : OV R Γ C rNe (.int x) (.int y) (.bl (!decide (x = y))) := fun σ F H a v u r1 r2 QV k => by
  rw [sat_int r1, sat_int r2]
  have e : decide (V.int x = V.int y) = decide (x = y) := by simp
  exact ⟨rfl, by rw [e]; exact k _ F H a (Dp.bl _) (Ex.refl F)⟩
theorem ov_eqS {x y : Str} : OV R Γ C rEq (.str x) (.str y) (.bl (decide (x = y))) := fun σ F H a v u r1 r2 QV k => by
  rw [sat_str r1, sat_str r2]
  have e : decide (V.str x = V.str y) = decide (x = y) := by simp
  exact ⟨rfl, by rw [e]; exact k _ F H a (Dp.bl _) (Ex.refl F)⟩
theorem ov_neS {x y : Str} : OV R Γ C rNe (.str x) (.str y) (.bl (!decide (x = y))) := fun σ F H a v u r1 r2 QV k => by
  rw [sat_str r1, sat_str r2]
  have e : decide (V.str x = V.str y) = decide (x = y) := by simp
  exact ⟨rfl, by rw [e]; exact k _ F H a (Dp.bl _) (Ex.refl F)⟩
theorem ev_eq (ha : EV R a Γ C (.int i)) (hb : EV R b Γ C (.int j)) : EV R (.Compare a [.Eq] [b] pos) Γ C (.bl (decide (i = j))) := ev_op2 (pe_cmpR op_eq pe_w pe_w (nomark _)) ha hb ov_eqI
theorem ev_ne (ha : EV R a Γ C (.int i)) (hb : EV R b Γ C (.int j)) : EV R (.Compare a [.NotEq] [b] pos) Γ C (.bl (!decide (i = j))) := ev_op2 (pe_cmpR op_ne pe_w pe_w (nomark _)) ha hb ov_neI
theorem tv_eq (ha : EV R a Γ C (.int i)) (hb : EV R b Γ C (.int j)) : TV R (.Compare a [.Eq] [b] pos) Γ C (decide (i = j)) := tv_op2 (pt_cmpR op_eq pe_w pe_w (nomark _)) ha hb ov_eqI
theorem tv_ne (ha : EV R a Γ C (.int i)) (hb : EV R b Γ C (.int j)) : TV R (.Compare a [.NotEq] [b] pos) Γ C (!decide (i = j)) := tv_op2 (pt_cmpR op_ne pe_w pe_w (nomark _)) ha hb ov_neI
theorem ev_eqs {i j : Str} (ha : EV R a Γ C (.str i)) (hb : EV R b Γ C (.str j)) : EV R (.Compare a [.Eq] [b] pos) Γ C (.bl (decide (i = j))) := ev_op2 (pe_cmpR op_eq pe_w pe_w (nomark _)) ha hb ov_eqS
theorem ev_nes {i j : Str} (ha : EV R a Γ C (.str i)) (hb : EV R b Γ C (.str j)) : EV R (.Compare a [.NotEq] [b] pos) Γ C (.bl (!decide (i = j))) := ev_op2 (pe_cmpR op_ne pe_w pe_w (nomark _)) ha hb ov_neS
theorem tv_eqs {i j : Str} (ha : EV R a Γ C (.str i)) (hb : EV R b Γ C (.str j)) : TV R (.Compare a [.Eq] [b] pos) Γ C (decide (i = j)) := tv_op2 (pt_cmpR op_eq pe_w pe_w (nomark _)) ha hb ov_eqS
theorem tv_nes {i j : Str} (ha : EV R a Γ C (.str i)) (hb : EV R b Γ C (.str j)) : TV R (.Compare a [.NotEq] [b] pos) Γ C (!decide (i = j)) := tv_op2 (pt_cmpR op_ne pe_w pe_w (nomark _)) ha hb ov_neS
/-- == of data of any depth -/
theorem ov_eqD {x y : PyData} (hx : SeqAt.shaped x = true) (hy : SeqAt.shaped y = true) : OV R Γ C (rEqD R.X.K) (.d x) (.d y) (.bl (PyData.eqv x y)) := fun σ F H a v u r1 r2 QV k =>
  ⟨x, y, dp_ex a.g.sub r1, dp_ex a.g.sub r2, hx, hy, k _ F H a (Dp.bl _) (Ex.refl F)⟩
theorem ov_neD {x y : PyData} (hx : SeqAt.shaped x = true) (hy : SeqAt.shaped y = true) : OV R Γ C (rNeD R.X.K) (.d x) (.d y) (.bl (!PyData.eqv x y)) := fun σ F H a v u r1 r2 QV k =>
  ⟨x, y, dp_ex a.g.sub r1, dp_ex a.g.sub r2, hx, hy, k _ F H a (Dp.bl _) (Ex.refl F)⟩
theorem ev_eqd {x y : PyData} (hu : R.X.A.units + 64 < cLine) (ha : EV R a Γ C (.d x)) (hb : EV R b Γ C (.d y)) (hx : SeqAt.shaped x = true) (hy : SeqAt.shaped y = true) : EV R (.Compare a [.Eq] [b] pos) Γ C (.bl (PyData.eqv x y)) := ev_op2 (pe_cmpR (op_eqD hu) pe_w pe_w (nomark _)) ha hb (ov_eqD hx hy)
theorem ev_ned {x y : PyData} (hu : R.X.A.units + 64 < cLine) (ha : EV R a Γ C (.d x)) (hb : EV R b Γ C (.d y)) (hx : SeqAt.shaped x = true) (hy : SeqAt.shaped y = true) : EV R (.Compare a [.NotEq] [b] pos) Γ C (.bl (!PyData.eqv x y)) := ev_op2 (pe_cmpR (op_neD hu) pe_w pe_w (nomark _)) ha hb (ov_neD hx hy)
theorem tv_eqd {x y : PyData} (hu : R.X.A.units + 64 < cLine) (ha : EV R a Γ C (.d x)) (hb : EV R b Γ C (.d y)) (hx : SeqAt.shaped x = true) (hy : SeqAt.shaped y = true) : TV R (.Compare a [.Eq] [b] pos) Γ C (PyData.eqv x y) := tv_op2 (pt_cmpR (op_eqD hu) pe_w pe_w (nomark _)) ha hb (ov_eqD hx hy)
theorem tv_ned {x y : PyData} (hu : R.X.A.units + 64 < cLine) (ha : EV R a Γ C (.d x)) (hb : EV R b Γ C (.d y)) (hx : SeqAt.shaped x = true) (hy : SeqAt.shaped y = true) : TV R (.Compare a [.NotEq] [b] pos) Γ C (!PyData.eqv x y) := tv_op2 (pt_cmpR (op_neD hu) pe_w pe_w (nomark _)) ha hb (ov_neD hx hy)
/-- is None -/
def nonB : PyData → Bool
  | .none => true
  | _ => false
theorem isNon_iff {K : PySem.W.Frag} {v : V} {d : PyData} (h : Dp K F v d) : decide (v = .non) = nonB d := by
  cases h <;> rfl
theorem ov_isN {x : PyData} : OV R Γ C (fun x y H Q => y = .non ∧ Q (.bl (decide (x = .non))) H) (.d x) .non (.bl (nonB x)) := fun σ F H a v u r1 r2 QV k => by
  refine ⟨sat_non r2, ?_⟩
  rw [isNon_iff (show Dp _ F v x from r1)]
  exact k _ F H a (Dp.bl _) (Ex.refl F)
theorem ov_notN {x : PyData} : OV R Γ C (fun x y H Q => y = .non ∧ Q (.bl (!decide (x = .non))) H) (.d x) .non (.bl (!nonB x)) := fun σ F H a v u r1 r2 QV k => by
  refine ⟨sat_non r2, ?_⟩
  rw [isNon_iff (show Dp _ F v x from r1)]
  exact k _ F H a (Dp.bl _) (Ex.refl F)
theorem tv_isN {x : PyData} (ha : EV R a Γ C (.d x)) (hb : EV R b Γ C .non) : TV R (.Compare a [.Is] [b] pos) Γ C (nonB x) := tv_op2 (pt_cmpR op_isN pe_w pe_w (nomark _)) ha hb ov_isN
theorem tv_notN {x : PyData} (ha : EV R a Γ C (.d x)) (hb : EV R b Γ C .non) : TV R (.Compare a [.IsNot] [b] pos) Γ C (!nonB x) := tv_op2 (pt_cmpR op_notN pe_w pe_w (nomark _)) ha hb ov_notN
/-- text + text -/
theorem ev_cat {i j : Str} (ha : EV R a Γ C (.str i)) (hb : EV R b Γ C (.str j)) (h : i.length + j.length ≤ sizeLine) : EV R (.BinOp a .Add b pos) Γ C (.str (i ++ j)) := ev_op2 (pe_op op_add_str pe_w pe_w) ha hb fun σ F H at0 v u r1 r2 QV k => by
  rw [sat_str r1, sat_str r2]
  exact ⟨i, j, rfl, rfl, h, k _ F H at0 (Dp.str _) (Ex.refl F)⟩
/-- list + list, data -/
def rCatD (K : PySem.W.Frag) : R2 := fun x y H Q => ∃ l b xs zs, x = .ref l ∧ y = .ref b ∧ SqL K H l xs ∧ SqL K H b zs ∧ xs.length + zs.length ≤ sizeLine ∧ ∀ p, H p = none → Q (.ref p) (upd H p (.lst (xs ++ zs)))
theorem op_catD {X : Cx} : OpR X (binaryOp .Add) (rCatD X.K) := by
  intro pins s σ H x y v u Q I rx ry h
  obtain ⟨l, b, xs, zs, rfl, rfl, hH, hB, hz, q⟩ := h
  cases rx
  cases ry
  obtain ⟨its, r, ⟨⟨cls, dd, data, sl⟩, n, ho, hc, hdn, hd⟩, _⟩ := I.list hH
  obtain ⟨its2, r2, ⟨⟨cls2, dd2, data2, sl2⟩, n2, ho2, hc2, hdn2, hd2⟩, _⟩ := I.list hB
  simp only at hc hd hc2 hd2
  subst hc hd hc2 hd2
  have hl := Vals.length r
  have hl2 := Vals.length r2
  have ea : its.toArray ++ its2.toArray = (its ++ its2).toArray := by simp
  refine concat_meets ⟨_, ho, rfl⟩ ⟨_, ho2, rfl⟩ noFill_list_add seq_list_add PySem.F.slot_list_add PySem.F.entry_list_add (PySem.F.args_list_add_2 _ _) (list_addW l b its.toArray its2.toArray n n2 dd dd2 sl sl2 (by simp only [List.size_toArray]; omega)) ⟨ho, ho2, ?_⟩
  rw [ea]
  exact ⟨.ref _, _, I.lnew (t' := s.toks) (r.append r2) (by rw [List.length_append]; omega), rfl, q _ I.fresh⟩
theorem ev_catL {x y : List PyData} (ha : EV R a Γ C (.d (.list x))) (hb : EV R b Γ C (.d (.list y))) (h : x.length + y.length ≤ sizeLine) : EV R (.BinOp a .Add b pos) Γ C (.d (.list (x ++ y))) := ev_op2 (pe_op op_catD pe_w pe_w) ha hb fun σ F H at0 v u r1 r2 QV k => by
  obtain ⟨p, xs, rfl, s1, d1⟩ := sat_lst r1
  obtain ⟨q, ys, rfl, s2, d2⟩ := sat_lst r2
  refine ⟨p, q, xs, ys, rfl, rfl, at0.g.sub.sqL s1, at0.g.sub.sqL s2, by rw [dpAll_len d1, dpAll_len d2]; exact h, fun p' np => ?_⟩
  obtain ⟨a2, e2⟩ := at0.lay (o := .lst (xs ++ ys)) np
  exact k _ _ _ a2 (.lst (.inl (.inl upd_same)) (dpAll_ex e2 (dpAll_append d1 d2))) e2
/-- x in a list or tuple of data -/
theorem tv_inT {x : PyData} {ds : List PyData} (ha : EV R a Γ C (.d x)) (hb : EV R b Γ C (.d (.tuple ds))) (hx : ∀ K F v, Dp K F v x → flatV v = true) (hs : ∀ K F vs, DpAll K F vs ds → vs.all flatV = true) (c : Bool) (hc : ∀ K F v vs, Dp K F v x → DpAll K F vs ds → inV v vs = c)
    (hm : behindInMarks .In b = false := by rfl) : TV R (.Compare a [.In] [b] pos) Γ C c := tv_op2 (pt_cmpR op_in_seq pe_w pe_w hm) ha hb fun σ F H at0 v u r1 r2 QV k => by
  obtain ⟨q, ys, rfl, s2, d2⟩ := sat_tup r2
  refine ⟨q, ys, rfl, .inr (at0.g.sub.sqT s2), hx _ _ _ r1, hs _ _ _ d2, ?_⟩
  rw [if_neg (by decide), hc _ _ _ _ r1 d2]
  exact k _ F H at0 (Dp.bl _) (Ex.refl F)
theorem ev_neg (ha : EV R a Γ C (.int i)) : EV R (.UnaryOp .USub a pos) Γ C (.int (-i)) := fun Q q σ F H at0 QV k => by
  refine wE_of (pe_un un_neg pe_w) ?_
  refine ha (fun s C' => s = .int i ∧ C' = C) ⟨rfl, rfl⟩ σ F H at0 _ fun v s F1 H1 C1 a1 r1 e1 h1 => ?_
  obtain ⟨rfl, rfl⟩ := h1
  rw [sat_int r1]
  exact ⟨i, rfl, k _ (.int (-i)) F1 H1 C1 a1 (Dp.int _) e1 q⟩
/-- chains of ints -/
theorem tv_chain {c : Expr} {op op' : CmpOp} {g g' : Int → Int → Bool} {k : Int} (ho : OpR R.X (compareOp op) (rI0 fun i j => .bl (g i j))) (ho' : OpR R.X (compareOp op') (rI0 fun i j => .bl (g' i j))) (ha : EV R a Γ C (.int i)) (hb : EV R b Γ C (.int j)) (hc : EV R c Γ C (.int k))
    (pt : PT R.X (.Compare a [op, op'] [b, c] pos) (tTest (tChain (rI0 fun i j => .bl (g i j)) (rI0 fun i j => .bl (g' i j)) (wE R.X a) (wE R.X b) (wE R.X c)))) : TV R (.Compare a [op, op'] [b, c] pos) Γ C (g i j && g' j k) := fun Q q σ F H at0 QV kk => by
  refine wT_of pt ?_
  refine ha (fun s C' => s = .int i ∧ C' = C) ⟨rfl, rfl⟩ σ F H at0 _ fun v s F1 H1 C1 a1 r1 e1 h1 => ?_
  obtain ⟨rfl, rfl⟩ := h1
  refine hb (fun s C' => s = .int j ∧ C' = C1) ⟨rfl, rfl⟩ σ F1 H1 a1 _ fun v2 s F2 H2 C2 a2 r2 e2 h2 => ?_
  obtain ⟨rfl, rfl⟩ := h2
  rw [sat_int r1, sat_int r2]
  refine ⟨i, j, rfl, rfl, g i j, rfl, ?_⟩
  cases hg : g i j with
  | true =>
    rw [if_pos rfl]
    refine hc (fun s C' => s = .int k ∧ C' = C2) ⟨rfl, rfl⟩ σ F2 H2 a2 _ fun v3 s F3 H3 C3 a3 r3 e3 h3 => ?_
    obtain ⟨rfl, rfl⟩ := h3
    rw [sat_int r3]
    refine ⟨j, k, rfl, rfl, g' j k, rfl, kk _ F3 H3 C3 a3 ((e1.trans e2).trans e3) ?_⟩
    rw [hg] at q
    exact q
  | false =>
    rw [if_neg (by decide)]
    refine ⟨false, rfl, kk _ F2 H2 C2 a2 (e1.trans e2) ?_⟩
    rw [hg] at q
    exact q
end
end
end Dl

namespace Dl
open PySem PySem.Spec PyProof.Rows L2
section
variable {R : Rx} {Γ : Gm} {C C' : Cells} {σ : L2.St} {F H F' H' : Hp}

/-! ### argument lists, displays -/
theorem av_nil : AV R [] Γ C [] := fun Q q σ F H a QV k => wA_of pa_nil (k [] [] F H C a .nil (Ex.refl F) q)
theorem ea_nil {Q : List SV → Cells → Prop} (q : Q [] C) : EA R [] Γ C Q := av_nil Q q
theorem ea_cons {e : Expr} {es : List Expr} {Q : List SV → Cells → Prop} (h : EE R e Γ C fun s C1 => EA R es Γ C1 fun ss C2 => Q (s :: ss) C2) (hs : starEach (e :: es) R.X.env = (false, eval e R.X.env) :: starEach es R.X.env := by rfl) : EA R (e :: es) Γ C Q := fun σ F H a QV k => by
  refine wA_of (pa_cons pe_w pa_w hs) ?_
  refine h σ F H a _ fun v s F1 H1 C1 a1 r1 e1 h1 => ?_
  exact h1 σ F1 H1 a1 _ fun vs ss F2 H2 C2 a2 r2 e2 h2 => k (v :: vs) (s :: ss) F2 H2 C2 a2 (.cons (r1.ex e2) r2) (e1.trans e2) h2
theorem av_cons {e : Expr} {es : List Expr} {s : SV} {ss : List SV} (h : EV R e Γ C s) (h2 : AV R es Γ C ss) (hs : starEach (e :: es) R.X.env = (false, eval e R.X.env) :: starEach es R.X.env := by rfl) : AV R (e :: es) Γ C (s :: ss) := fun Q q => ea_cons (h _ (h2 _ q)) hs
/-- a tuple of data -/
theorem ee_tup {es : List Expr} {x1 pos} {Q : SV → Cells → Prop} (h : EA R es Γ C fun ss C1 => ∃ ds, ss = ds.map SV.d ∧ ds.length ≤ sizeLine ∧ Q (.d (.tuple ds)) C1) : EE R (.Tuple es x1 pos) Γ C Q := fun σ F H a QV k => by
  refine wE_of (pe_tup pa_w) ?_
  refine h σ F H a _ fun vs ss F1 H1 C1 a1 r1 e1 h1 => ?_
  obtain ⟨ds, rfl, hl, q⟩ := h1
  have rd := sall_dp r1
  refine ⟨by rw [dpAll_len rd]; exact hl, fun p np => ?_⟩
  obtain ⟨a2, e2⟩ := a1.lay (o := .tup vs) np
  exact k _ (.d (.tuple ds)) _ _ C1 a2 (.tup (.inl (.inl upd_same)) (dpAll_ex e2 rd)) (e1.trans e2) q
theorem ev_tup {es : List Expr} {x1 pos} {ds : List PyData} (h : AV R es Γ C (ds.map SV.d)) (hl : ds.length ≤ sizeLine := by first | decide | (simp only [List.length_cons, List.length_nil]; decide)) : EV R (.Tuple es x1 pos) Γ C (.d (.tuple ds)) := fun Q q => ee_tup (h _ ⟨ds, rfl, hl, q⟩)
/-- a list that stays as it is -/
theorem ee_lst {es : List Expr} {pos} {Q : SV → Cells → Prop} (h : EA R es Γ C fun ss C1 => ∃ ds, ss = ds.map SV.d ∧ ds.length ≤ sizeLine ∧ Q (.d (.list ds)) C1) : EE R (.List es pos) Γ C Q := fun σ F H a QV k => by
  refine wE_of (pe_lst pa_w) ?_
  refine h σ F H a _ fun vs ss F1 H1 C1 a1 r1 e1 h1 => ?_
  obtain ⟨ds, rfl, hl, q⟩ := h1
  have rd := sall_dp r1
  refine ⟨by rw [dpAll_len rd]; exact hl, fun p np => ?_⟩
  obtain ⟨a2, e2⟩ := a1.lay (o := .lst vs) np
  exact k _ (.d (.list ds)) _ _ C1 a2 (.lst (.inl (.inl upd_same)) (dpAll_ex e2 rd)) (e1.trans e2) q
theorem ev_lst {es : List Expr} {pos} {ds : List PyData} (h : AV R es Γ C (ds.map SV.d)) (hl : ds.length ≤ sizeLine := by first | decide | (simp only [List.length_cons, List.length_nil]; decide)) : EV R (.List es pos) Γ C (.d (.list ds)) := fun Q q => ee_lst (h _ ⟨ds, rfl, hl, q⟩)
/-- a list that may change: a cell -/
theorem ee_lstC {es : List Expr} {pos} {Q : SV → Cells → Prop} (h : EA R es Γ C fun ss C1 => ss.length ≤ sizeLine ∧ ∀ p, C1 p = none → Q (.c p) (cupd C1 p (.lst ss))) : EE R (.List es pos) Γ C Q := fun σ F H a QV k => by
  refine wE_of (pe_lst pa_w) ?_
  refine h σ F H a _ fun vs ss F1 H1 C1 a1 r1 e1 h1 => ?_
  refine ⟨by rw [Paired.length r1]; exact h1.1, fun p np => ?_⟩
  exact k _ (.c p) _ _ _ (a1.cell (c := .lst ss) np ⟨vs, upd_same, r1⟩) rfl e1 (h1.2 p (a1.g.sl np).2)

/-! ### subscripts -/
theorem ov_ixT {ds : List PyData} {i : Int} {d : PyData} (h : atI ds i = some d) : OV R Γ C (rIxT R.X.K) (.d (.tuple ds)) (.int i) (.d d) := fun σ F H a v u r1 r2 QV k => by
  obtain ⟨p, xs, rfl, s, rd⟩ := sat_tup r1
  rw [sat_int r2]
  obtain ⟨v, h1, h2⟩ := dpAll_atI rd h
  exact ⟨p, xs, i, v, rfl, rfl, a.g.sub.sqT s, h1, k v F H a h2 (Ex.refl F)⟩
theorem ov_ixL {ds : List PyData} {i : Int} {d : PyData} (h : atI ds i = some d) : OV R Γ C (rIxL R.X.K) (.d (.list ds)) (.int i) (.d d) := fun σ F H a v u r1 r2 QV k => by
  obtain ⟨p, xs, rfl, s, rd⟩ := sat_lst r1
  rw [sat_int r2]
  obtain ⟨v, h1, h2⟩ := dpAll_atI rd h
  exact ⟨p, xs, i, v, rfl, rfl, a.g.sub.sqL s, h1, k v F H a h2 (Ex.refl F)⟩
theorem ov_ixC {p : Addr} {ss : List SV} {i : Int} {s : SV} (hc : C p = some (.lst ss)) (h : atI ss i = some s) : OV R Γ C (rIxL R.X.K) (.c p) (.int i) s := fun σ F H a v u r1 r2 QV k => by
  obtain ⟨vs, hv, r⟩ := a.g.cel p _ hc
  have e : v = .ref p := r1
  subst e
  rw [sat_int r2]
  obtain ⟨v, h1, h2⟩ := sall_atI r h
  exact ⟨p, vs, i, v, rfl, rfl, .inl (.inl hv), h1, k v F H a h2 (Ex.refl F)⟩
theorem ov_ixS {z : Str} {i : Int} {c : Nat} (hl : z.length ≤ sizeLine) (h : atI z.cps.toList i = some c) : OV R Γ C rIxS (.str z) (.int i) (.str ⟨#[c]⟩) := fun σ F H a v u r1 r2 QV k => by
  rw [sat_str r1, sat_int r2]
  exact ⟨z, i, c, rfl, rfl, hl, h, k _ F H a (Dp.str _) (Ex.refl F)⟩
section
variable {a b : Expr} {pos : Pos} {i : Int}
theorem ev_ixT {ds : List PyData} {d : PyData} (ha : EV R a Γ C (.d (.tuple ds))) (hb : EV R b Γ C (.int i)) (h : atI ds i = some d) (hs : PlainIx b := by exact fun _ _ => rfl) : EV R (.Subscript a b pos) Γ C (.d d) := ev_op2 (pe_ix ix_tup pe_w pe_w hs) ha hb (ov_ixT h)
theorem ev_ixL {ds : List PyData} {d : PyData} (ha : EV R a Γ C (.d (.list ds))) (hb : EV R b Γ C (.int i)) (h : atI ds i = some d) (hs : PlainIx b := by exact fun _ _ => rfl) : EV R (.Subscript a b pos) Γ C (.d d) := ev_op2 (pe_ix ix_list pe_w pe_w hs) ha hb (ov_ixL h)
theorem ev_ixC {p : Addr} {ss : List SV} {s : SV} (ha : EV R a Γ C (.c p)) (hb : EV R b Γ C (.int i)) (hc : C p = some (.lst ss)) (h : atI ss i = some s) (hs : PlainIx b := by exact fun _ _ => rfl) : EV R (.Subscript a b pos) Γ C s := ev_op2 (pe_ix ix_list pe_w pe_w hs) ha hb (ov_ixC hc h)
theorem ev_ixS {z : Str} {c : Nat} (ha : EV R a Γ C (.str z)) (hb : EV R b Γ C (.int i)) (hl : z.length ≤ sizeLine) (h : atI z.cps.toList i = some c) (hs : PlainIx b := by exact fun _ _ => rfl) : EV R (.Subscript a b pos) Γ C (.str ⟨#[c]⟩) := ev_op2 (pe_ix ix_str pe_w pe_w hs) ha hb (ov_ixS hl h)
end

/-! ### calls of built-ins by name: one value out -/
/-- what a call makes of values -/
def CV (R : Rx) (Γ : Gm) (C : Cells) (r : List V → Hp → VK → Prop) (ss : List SV) (z : SV) : Prop := ∀ σ F H, At R σ Γ F H C → ∀ vs, SAll R.X.K F vs ss → ∀ QV : VK, (∀ w F' H', At R σ Γ F' H' C → SAt R.X.K F' w z → Ex F F' → QV w H') → r vs H QV
theorem ev_cb {e : Expr} {es : List Expr} {r : List V → Hp → VK → Prop} {ss : List SV} {z : SV} (pe : PE R.X e (tCB r (wA R.X es))) (ha : AV R es Γ C ss) (o : CV R Γ C r ss z) : EV R e Γ C z := fun Q q σ F H at0 QV k => by
  refine wE_of pe ?_
  refine ha (fun s C' => s = ss ∧ C' = C) ⟨rfl, rfl⟩ σ F H at0 _ fun v s F1 H1 C1 a1 r1 e1 h1 => ?_
  obtain ⟨rfl, rfl⟩ := h1
  exact o σ F1 H1 a1 v r1 QV fun w F3 H3 a3 r3 e3 => k w z F3 H3 C1 a3 r3 (e1.trans e3) q
section
variable {e : Expr} {es : List Expr} {p pos : Pos}
theorem sall1 {K : PySem.W.Frag} {vs : List V} {s : SV} (h : SAll K F vs [s]) : ∃ v, vs = [v] ∧ SAt K F v s := by
  cases h with
  | cons r t => cases t; exact ⟨_, rfl, r⟩
theorem sall2 {K : PySem.W.Frag} {vs : List V} {s s2 : SV} (h : SAll K F vs [s, s2]) : ∃ v u, vs = [v, u] ∧ SAt K F v s ∧ SAt K F u s2 := by
  cases h with
  | cons r t => obtain ⟨u, rfl, q⟩ := sall1 t; exact ⟨_, u, rfl, r, q⟩
theorem ev_lenL {ds : List PyData} (hm : R.X.mg "len" = none) (ha : EV R e Γ C (.d (.list ds))) (hg : Gl R.X "len" := by rfl) (hs : starEach [e] R.X.env = (false, eval e R.X.env) :: starEach [] R.X.env := by rfl) (hpl : (backTo pos (starEach [] R.X.env)).any (·.1) = false := by rfl) : EV R (.Call (.Name "len" p) [e] [] pos) Γ C (.int ds.length) :=
  ev_cb (pe_callB call_len hg hm PySem.boot_len pa_w (by decide) (by decide) hs hpl) (av_cons ha av_nil hs) fun σ F H at0 vs r QV k => by
    obtain ⟨v, rfl, r1⟩ := sall1 r
    obtain ⟨q, xs, rfl, s, rd⟩ := sat_lst r1
    exact ⟨_, ds.length, rfl, .inl ⟨xs, at0.g.sub.sqL s, (dpAll_len rd).symm⟩, k _ F H at0 (Dp.int _) (Ex.refl F)⟩
theorem ev_lenT {ds : List PyData} (hm : R.X.mg "len" = none) (ha : EV R e Γ C (.d (.tuple ds))) (hg : Gl R.X "len" := by rfl) (hs : starEach [e] R.X.env = (false, eval e R.X.env) :: starEach [] R.X.env := by rfl) (hpl : (backTo pos (starEach [] R.X.env)).any (·.1) = false := by rfl) : EV R (.Call (.Name "len" p) [e] [] pos) Γ C (.int ds.length) :=
  ev_cb (pe_callB call_len hg hm PySem.boot_len pa_w (by decide) (by decide) hs hpl) (av_cons ha av_nil hs) fun σ F H at0 vs r QV k => by
    obtain ⟨v, rfl, r1⟩ := sall1 r
    obtain ⟨q, xs, rfl, s, rd⟩ := sat_tup r1
    exact ⟨_, ds.length, rfl, .inr ⟨xs, at0.g.sub.sqT s, (dpAll_len rd).symm⟩, k _ F H at0 (Dp.int _) (Ex.refl F)⟩
theorem ev_lenS {z : Str} (hm : R.X.mg "len" = none) (ha : EV R e Γ C (.str z)) (hl : z.length ≤ sizeLine) (hg : Gl R.X "len" := by rfl) (hs : starEach [e] R.X.env = (false, eval e R.X.env) :: starEach [] R.X.env := by rfl) (hpl : (backTo pos (starEach [] R.X.env)).any (·.1) = false := by rfl) : EV R (.Call (.Name "len" p) [e] [] pos) Γ C (.int z.length) :=
  ev_cb (pe_callB call_len hg hm PySem.boot_len pa_w (by decide) (by decide) hs hpl) (av_cons ha av_nil hs) fun σ F H at0 vs r QV k => by
    obtain ⟨v, rfl, r1⟩ := sall1 r
    rw [sat_str r1]
    exact ⟨_, z.length, rfl, ⟨hl, rfl⟩, k _ F H at0 (Dp.int _) (Ex.refl F)⟩
theorem ev_lenC {q : Addr} {ss : List SV} (hm : R.X.mg "len" = none) (ha : EV R e Γ C (.c q)) (hc : C q = some (.lst ss)) (hg : Gl R.X "len" := by rfl) (hs : starEach [e] R.X.env = (false, eval e R.X.env) :: starEach [] R.X.env := by rfl) (hpl : (backTo pos (starEach [] R.X.env)).any (·.1) = false := by rfl) : EV R (.Call (.Name "len" p) [e] [] pos) Γ C (.int ss.length) :=
  ev_cb (pe_callB call_len hg hm PySem.boot_len pa_w (by decide) (by decide) hs hpl) (av_cons ha av_nil hs) fun σ F H at0 vs r QV k => by
    obtain ⟨v, rfl, r1⟩ := sall1 r
    obtain ⟨xs, hv, rr⟩ := at0.g.cel q _ hc
    have e : v = .ref q := r1
    subst e
    exact ⟨_, ss.length, rfl, .inl ⟨xs, .inl (.inl hv), (Paired.length rr).symm⟩, k _ F H at0 (Dp.int _) (Ex.refl F)⟩
theorem ev_abs {i : Int} (hm : R.X.mg "abs" = none) (ha : EV R e Γ C (.int i)) (hg : Gl R.X "abs" := by rfl) (hs : starEach [e] R.X.env = (false, eval e R.X.env) :: starEach [] R.X.env := by rfl) (hpl : (backTo pos (starEach [] R.X.env)).any (·.1) = false := by rfl) : EV R (.Call (.Name "abs" p) [e] [] pos) Γ C (.int (if i < 0 then -i else i)) :=
  ev_cb (pe_callB call_abs hg hm (by decide +kernel) pa_w (by decide) (by decide) hs hpl) (av_cons ha av_nil hs) fun σ F H at0 vs r QV k => by
    obtain ⟨v, rfl, r1⟩ := sall1 r
    rw [sat_int r1]
    exact ⟨i, rfl, k _ F H at0 (Dp.int _) (Ex.refl F)⟩
theorem ev_strI {i : Int} (hm : R.X.mg "str" = none) (ha : EV R e Γ C (.int i)) (hi : i.natAbs.log2 < 1920) (hg : Gl R.X "str" := by rfl) (hs : starEach [e] R.X.env = (false, eval e R.X.env) :: starEach [] R.X.env := by rfl) (hpl : (backTo pos (starEach [] R.X.env)).any (·.1) = false := by rfl) : EV R (.Call (.Name "str" p) [e] [] pos) Γ C (.str (toString i)) :=
  ev_cb (pe_callTy call_str_int hg hm (by decide +kernel) pa_w (by decide) (by decide) hs hpl) (av_cons ha av_nil hs) fun σ F H at0 vs r QV k => by
    obtain ⟨v, rfl, r1⟩ := sall1 r
    rw [sat_int r1]
    exact ⟨i, rfl, hi, k _ F H at0 (Dp.str _) (Ex.refl F)⟩
end

/-! ### tests, and, or, not, if else -/
theorem tv_val {e : Expr} {b : Bool} (h : EV R e Γ C (.bl b)) (he : ∀ whole, isTrue e R.X.env whole = (do let v ← whole; standAt e.pos; holding [v] (truthy v)) := by intro _; rfl) : TV R e Γ C b := fun Q q σ F H a QV k => by
  refine wT_of (pt_val pe_w he) ?_
  refine h (fun s C' => s = .bl b ∧ C' = C) ⟨rfl, rfl⟩ σ F H a _ fun v s F1 H1 C1 a1 r1 e1 h1 => ?_
  obtain ⟨rfl, rfl⟩ := h1
  exact ⟨b, sat_bl r1, k b F1 H1 C1 a1 e1 q⟩
theorem et_val {e : Expr} {Q : Bool → Cells → Prop} (h : EE R e Γ C fun s C' => ∃ b, s = .bl b ∧ Q b C') (he : ∀ whole, isTrue e R.X.env whole = (do let v ← whole; standAt e.pos; holding [v] (truthy v)) := by intro _; rfl) : ET R e Γ C Q := fun σ F H a QV k => by
  refine wT_of (pt_val pe_w he) ?_
  refine h σ F H a _ fun v s F1 H1 C1 a1 r1 e1 h1 => ?_
  obtain ⟨b, rfl, q⟩ := h1
  exact ⟨b, sat_bl r1, k b F1 H1 C1 a1 e1 q⟩
section
variable {a b : Expr} {rest : List Expr} {pos : Pos} {p q : Bool}
theorem et_w {e : Expr} {Q : Bool → Cells → Prop} (h : EW R e Γ C Q) : ET R e Γ C Q := fun σ F H at0 QV k => wT_of pw_w.pt (h σ F H at0 QV k)
theorem tv_w {e : Expr} (h : WV R e Γ C p) : TV R e Γ C p := fun Q q => et_w (h Q q)
theorem ew_and1 {Q : Bool → Cells → Prop} (h : ET R a Γ C Q) : EW R (.BoolOp .And [a] pos) Γ C Q := fun σ F H at0 QV k => wW_of (pw_and1 pt_w) (h σ F H at0 QV k)
theorem ew_or1 {Q : Bool → Cells → Prop} (h : ET R a Γ C Q) : EW R (.BoolOp .Or [a] pos) Γ C Q := fun σ F H at0 QV k => wW_of (pw_or1 pt_w) (h σ F H at0 QV k)
theorem ew_and {Q : Bool → Cells → Prop} (h : ET R a Γ C fun c C1 => (c = true → EW R (.BoolOp .And (b :: rest) pos) Γ C1 Q) ∧ (c = false → Q false C1)) : EW R (.BoolOp .And (a :: b :: rest) pos) Γ C Q := fun σ F H at0 QV k => by
  refine wW_of (pw_and pt_w pw_w) ?_
  refine h σ F H at0 _ fun c F1 H1 C1 a1 e1 h1 => ?_
  cases c with
  | true => exact iteT (h1.1 rfl σ F1 H1 a1 QV fun c F2 H2 C2 a2 e2 => k c F2 H2 C2 a2 (e1.trans e2))
  | false => exact iteF (k false F1 H1 C1 a1 e1 (h1.2 rfl))
theorem ew_or {Q : Bool → Cells → Prop} (h : ET R a Γ C fun c C1 => (c = false → EW R (.BoolOp .Or (b :: rest) pos) Γ C1 Q) ∧ (c = true → Q true C1)) : EW R (.BoolOp .Or (a :: b :: rest) pos) Γ C Q := fun σ F H at0 QV k => by
  refine wW_of (pw_or pt_w pw_w) ?_
  refine h σ F H at0 _ fun c F1 H1 C1 a1 e1 h1 => ?_
  cases c with
  | true => exact iteT (k true F1 H1 C1 a1 e1 (h1.2 rfl))
  | false => exact iteF (h1.1 rfl σ F1 H1 a1 QV fun c F2 H2 C2 a2 e2 => k c F2 H2 C2 a2 (e1.trans e2))
theorem wv_and1 (h : TV R a Γ C p) : WV R (.BoolOp .And [a] pos) Γ C p := fun Q q => ew_and1 (h Q q)
theorem wv_or1 (h : TV R a Γ C p) : WV R (.BoolOp .Or [a] pos) Γ C p := fun Q q => ew_or1 (h Q q)
theorem wv_and (h : TV R a Γ C p) (h2 : p = true → WV R (.BoolOp .And (b :: rest) pos) Γ C q) : WV R (.BoolOp .And (a :: b :: rest) pos) Γ C (p && q) := fun Q z => ew_and (h _ ⟨fun e => by subst e; exact h2 rfl _ z, fun e => by subst e; exact z⟩)
theorem wv_or (h : TV R a Γ C p) (h2 : p = false → WV R (.BoolOp .Or (b :: rest) pos) Γ C q) : WV R (.BoolOp .Or (a :: b :: rest) pos) Γ C (p || q) := fun Q z => ew_or (h _ ⟨fun e => by subst e; exact h2 rfl _ z, fun e => by subst e; exact z⟩)
theorem et_not {Q : Bool → Cells → Prop} (h : ET R a Γ C fun c C1 => Q (!c) C1) : ET R (.UnaryOp .Not a pos) Γ C Q := fun σ F H at0 QV k => by
  refine wT_of (pt_not pt_w) ?_
  exact h σ F H at0 _ fun c F1 H1 C1 a1 e1 h1 => k (!c) F1 H1 C1 a1 e1 h1
theorem tv_not (h : TV R a Γ C p) : TV R (.UnaryOp .Not a pos) Γ C (!p) := fun Q q => et_not (h _ q)
theorem ev_one {op : BoolOp} {s : SV} (h : EV R a Γ C s) : EV R (.BoolOp op [a] pos) Γ C s := fun Q q σ F H at0 QV k => wE_of (pe_one pe_w) (h Q q σ F H at0 QV k)
theorem ee_one {op : BoolOp} {Q : SV → Cells → Prop} (h : EE R a Γ C Q) : EE R (.BoolOp op [a] pos) Γ C Q := fun σ F H at0 QV k => wE_of (pe_one pe_w) (h σ F H at0 QV k)
theorem ee_and {Q : SV → Cells → Prop} (h : EE R a Γ C fun s C1 => ∃ c, s = .bl c ∧ (c = true → EE R (.BoolOp .And (b :: rest) pos) Γ C1 Q) ∧ (c = false → Q (.bl false) C1)) : EE R (.BoolOp .And (a :: b :: rest) pos) Γ C Q := fun σ F H at0 QV k => by
  refine wE_of (pe_and pe_w pe_w) ?_
  refine h σ F H at0 _ fun v s F1 H1 C1 a1 r1 e1 h1 => ?_
  obtain ⟨c, rfl, h2, h3⟩ := h1
  refine ⟨c, sat_bl r1, ?_⟩
  cases c with
  | true => exact iteT (h2 rfl σ F1 H1 a1 QV fun v s F2 H2 C2 a2 r2 e2 => k v s F2 H2 C2 a2 r2 (e1.trans e2))
  | false => exact iteF (k _ (.bl false) F1 H1 C1 a1 (Dp.bl _) e1 (h3 rfl))
theorem ee_or {Q : SV → Cells → Prop} (h : EE R a Γ C fun s C1 => ∃ c, s = .bl c ∧ (c = false → EE R (.BoolOp .Or (b :: rest) pos) Γ C1 Q) ∧ (c = true → Q (.bl true) C1)) : EE R (.BoolOp .Or (a :: b :: rest) pos) Γ C Q := fun σ F H at0 QV k => by
  refine wE_of (pe_or pe_w pe_w) ?_
  refine h σ F H at0 _ fun v s F1 H1 C1 a1 r1 e1 h1 => ?_
  obtain ⟨c, rfl, h2, h3⟩ := h1
  refine ⟨c, sat_bl r1, ?_⟩
  cases c with
  | true => exact iteT (k _ (.bl true) F1 H1 C1 a1 (Dp.bl _) e1 (h3 rfl))
  | false => exact iteF (h2 rfl σ F1 H1 a1 QV fun v s F2 H2 C2 a2 r2 e2 => k v s F2 H2 C2 a2 r2 (e1.trans e2))
theorem ev_and (h : EV R a Γ C (.bl p)) (h2 : p = true → EV R (.BoolOp .And (b :: rest) pos) Γ C (.bl q)) : EV R (.BoolOp .And (a :: b :: rest) pos) Γ C (.bl (p && q)) := fun Q z => ee_and (h _ ⟨p, rfl, fun e => by subst e; exact h2 rfl _ z, fun e => by subst e; exact z⟩)
theorem ev_or (h : EV R a Γ C (.bl p)) (h2 : p = false → EV R (.BoolOp .Or (b :: rest) pos) Γ C (.bl q)) : EV R (.BoolOp .Or (a :: b :: rest) pos) Γ C (.bl (p || q)) := fun Q z => ee_or (h _ ⟨p, rfl, fun e => by subst e; exact h2 rfl _ z, fun e => by subst e; exact z⟩)
theorem ev_not (h : EV R a Γ C (.bl p)) : EV R (.UnaryOp .Not a pos) Γ C (.bl (!p)) := fun Q z σ F H at0 QV k => by
  refine wE_of (pe_not pe_w) ?_
  refine h (fun s C' => s = .bl p ∧ C' = C) ⟨rfl, rfl⟩ σ F H at0 _ fun v s F1 H1 C1 a1 r1 e1 h1 => ?_
  obtain ⟨rfl, rfl⟩ := h1
  exact ⟨p, sat_bl r1, k _ (.bl (!p)) F1 H1 C1 a1 (Dp.bl _) e1 z⟩
theorem ee_if {c : Expr} {Q : SV → Cells → Prop} (h : ET R c Γ C fun p C1 => (p = true → EE R a Γ C1 Q) ∧ (p = false → EE R b Γ C1 Q)) : EE R (.IfExp c a b pos) Γ C Q := fun σ F H at0 QV k => by
  refine wE_of (pe_ifExp pt_w pe_w pe_w) ?_
  refine h σ F H at0 _ fun c F1 H1 C1 a1 e1 h1 => ?_
  cases c with
  | true => exact iteT (h1.1 rfl σ F1 H1 a1 QV fun v s F2 H2 C2 a2 r2 e2 => k v s F2 H2 C2 a2 r2 (e1.trans e2))
  | false => exact iteF (h1.2 rfl σ F1 H1 a1 QV fun v s F2 H2 C2 a2 r2 e2 => k v s F2 H2 C2 a2 r2 (e1.trans e2))
theorem ev_if {c : Expr} {s : SV} (h : TV R c Γ C p) (h1 : p = true → EV R a Γ C s) (h2 : p = false → EV R b Γ C s) : EV R (.IfExp c a b pos) Γ C s := fun Q q => ee_if (h _ ⟨fun e => h1 e Q q, fun e => h2 e Q q⟩)
end

/-! ### statements -/
section
variable {st : Stmt} {rest : List Stmt} {N : Nx} {e : Expr} {pos : Pos}
theorem ss_nil (q : N.nx Γ C) : SS R [] Γ C N := fun σ F H a D ok => wSs_of pss_nil (ok.nx σ Γ F H C a (Ex.refl F) q)
theorem ss_cons (h : S1 R st Γ C { N with nx := fun Γ' C' => SS R rest Γ' C' N }) : SS R (st :: rest) Γ C N := fun σ F H a D ok => by
  refine wSs_of (pss_cons ps_w pss_w) ?_
  exact h σ F H a _ ⟨fun σ Γ F H C a e q => q σ F H a D (ok.ex e), ok.rt, ok.bk, ok.ct⟩
theorem ss_one (h : S1 R st Γ C N) : SS R [st] Γ C N := fun σ F H a D ok => wSs_of (pss_one ps_w) (h σ F H a D ok)
theorem s_pass (q : N.nx Γ C) : S1 R (.Pass pos) Γ C N := fun σ F H a D ok => wS_of ps_pass (ok.nx σ Γ F H C a (Ex.refl F) q)
theorem s_break (q : N.bk Γ C) : S1 R (.Break pos) Γ C N := fun σ F H a D ok => wS_of ps_break (ok.bk σ Γ F H C a (Ex.refl F) q)
theorem s_cont (q : N.ct Γ C) : S1 R (.Continue pos) Γ C N := fun σ F H a D ok => wS_of ps_continue (ok.ct σ Γ F H C a (Ex.refl F) q)
theorem s_expr (h : EE R e Γ C fun _ C' => N.nx Γ C') (hs : swapsWith e none pos.line R.X.env = pure false := by rfl) : S1 R (.Expr e pos) Γ C N := fun σ F H a D ok => by
  refine wS_of (ps_expr pe_w hs) ?_
  exact h σ F H a _ fun v s F' H' C' a' r e q => ok.nx σ Γ F' H' C' a' e q
theorem s_ret (h : EE R e Γ C N.rt) : S1 R (.Return (some e) pos) Γ C N := fun σ F H a D ok => by
  refine wS_of (ps_ret pe_w) ?_
  exact h σ F H a _ fun v s F' H' C' a' r e q => ok.rt σ Γ F' H' C' v s a' e r q
theorem s_retv {s : SV} (h : EV R e Γ C s) (q : N.rt s C) : S1 R (.Return (some e) pos) Γ C N := s_ret (h _ q)
theorem s_retN (q : N.rt .non C) : S1 R (.Return none pos) Γ C N := fun σ F H a D ok => wS_of ps_retN (ok.rt σ Γ F H C .non .non a (Ex.refl F) .non q)
theorem At.set (a : At R σ Γ F H C) {v : V} {s : SV} (r : SAt R.X.K F v s) (i : Nat) : At R (σ.set i (some v)) (Γ.set i (some s)) F H C := by
  refine ⟨a.st, a.g, fun j s' h => ?_, by rw [List.length_set, List.length_set]; exact a.ln⟩
  by_cases hj : i = j
  · subst hj
    by_cases hl : i < Γ.length
    · rw [List.getElem?_set_self hl] at h
      cases h
      exact ⟨v, List.getElem?_set_self (by rw [a.ln]; exact hl), r⟩
    · rw [List.getElem?_eq_none (by rw [List.length_set]; omega)] at h
      cases h
  · rw [List.getElem?_set_ne hj] at h
    rw [List.getElem?_set_ne hj]
    exact a.sl j s' h
/-- x = e -/
theorem s_set (i : Nat) {x : Str} {pos' : Pos} (h : EE R e Γ C fun s C' => N.nx (Γ.set i (some s)) C') (hN : R.X.N.Nodup) (hi : R.X.N[i]? = some x := by rfl) (hx : Loc R.X.env.scope x := by first | exact Or.inl rfl | exact Or.inr rfl) (hs : swapsWith e (some (.Name x pos')) pos.line R.X.env = pure false := by rfl) (hf : R.X.fn x = true ∨ R.X.env.scope.names.lookup x = some .local := by first | exact .inl rfl | exact .inr rfl) :
    S1 R (.Assign [.Name x pos'] e pos) Γ C N := fun σ F H a D ok => by
  refine wS_of (ps_set hN hi hx pe_w hs hf) ?_
  exact h σ F H a _ fun v s F' H' C' a' r e q => ok.nx _ _ F' H' C' (a'.set r i) e q
theorem s_setv (i : Nat) {x : Str} {pos' : Pos} {s : SV} (h : EV R e Γ C s) (q : N.nx (Γ.set i (some s)) C) (hN : R.X.N.Nodup) (hi : R.X.N[i]? = some x := by rfl) (hx : Loc R.X.env.scope x := by first | exact Or.inl rfl | exact Or.inr rfl) (hs : swapsWith e (some (.Name x pos')) pos.line R.X.env = pure false := by rfl) (hf : R.X.fn x = true ∨ R.X.env.scope.names.lookup x = some .local := by first | exact .inl rfl | exact .inr rfl) :
    S1 R (.Assign [.Name x pos'] e pos) Γ C N := s_set i (h _ q) hN hi hx hs hf
theorem s_if {c : Expr} {a b : List Stmt} (h : ET R c Γ C fun p C1 => (p = true → SS R a Γ C1 N) ∧ (p = false → SS R b Γ C1 N)) : S1 R (.If c a b pos) Γ C N := fun σ F H at0 D ok => by
  refine wS_of (ps_if pt_w pss_w pss_w) ?_
  refine h σ F H at0 _ fun p F1 H1 C1 a1 e1 h1 => ?_
  cases p with
  | true => exact iteT (h1.1 rfl σ F1 H1 a1 D (ok.ex e1))
  | false => exact iteF (h1.2 rfl σ F1 H1 a1 D (ok.ex e1))
theorem s_ifv {c : Expr} {a b : List Stmt} {p : Bool} (h : TV R c Γ C p) (h1 : p = true → SS R a Γ C N) (h2 : p = false → SS R b Γ C N) : S1 R (.If c a b pos) Γ C N := s_if (h _ ⟨h1, h2⟩)
end

/-! ### while -/
theorem s_while {c : Expr} {body : List Stmt} {pos : Pos} {N : Nx} (hp : PassesOwn (model R.X.prog R.X.w) R.X.A R.X.env R.X.xe) (W : Nat → Gm → Cells → Prop) (m0 : Nat) (w0 : W m0 Γ C)
    (turn : ∀ m Γ C, W m Γ C → ET R c Γ C fun b C1 => (b = true → SS R body Γ C1 { N with nx := fun Γ' C' => ∃ m', m' < m ∧ W m' Γ' C', ct := fun Γ' C' => ∃ m', m' < m ∧ W m' Γ' C', bk := N.nx }) ∧ (b = false → N.nx Γ C1)) : S1 R (.While c body [] pos) Γ C N := fun σ F H at0 D ok => by
  refine wS_of (ps_while hp pt_w pss_w) ?_
  refine ⟨fun m σ' H' => ∃ Γ' F' C', At R σ' Γ' F' H' C' ∧ Ex F F' ∧ W m Γ' C', ⟨m0, Γ, F, C, at0, Ex.refl F, w0⟩, ?_⟩
  rintro m σ1 H1 ⟨Γ1, F1, C1, a1, e1, w1⟩
  refine turn m Γ1 C1 w1 σ1 F1 H1 a1 _ fun b F2 H2 C2 a2 e2 h2 => ?_
  cases b with
  | true =>
    refine iteT ⟨fun σ' H' => ∃ m', m' < m ∧ ∃ Γ' F' C', At R σ' Γ' F' H' C' ∧ Ex F F' ∧ W m' Γ' C', fun σ' H' h => h, ?_⟩
    refine h2.1 rfl σ1 F2 H2 a2 _ ⟨fun σ' Γ' F' H' C' a' e q => ?_, fun σ' Γ' F' H' C' v s a' e => ok.rt σ' Γ' F' H' C' v s a' ((e1.trans e2).trans e), fun σ' Γ' F' H' C' a' e q => ok.nx σ' Γ' F' H' C' a' ((e1.trans e2).trans e) q, fun σ' Γ' F' H' C' a' e q => ?_⟩
    · obtain ⟨m', hm, w'⟩ := q
      exact ⟨m', hm, Γ', F', C', a', (e1.trans e2).trans e, w'⟩
    · obtain ⟨m', hm, w'⟩ := q
      exact ⟨m', hm, Γ', F', C', a', (e1.trans e2).trans e, w'⟩
  | false => exact iteF (ok.nx _ _ _ _ _ a2 (e1.trans e2) (h2.2 rfl))
end
end Dl

namespace Dl
open PySem PySem.Spec PyProof.Rows L2

/-! ### promises over data -/
abbrev DSp := List SV → Cells → (SV → Cells → Prop) → (Er → Cells → Prop) → Prop
def toSp (K : PySem.W.Frag) (sp : DSp) : Sp := fun vs H Q E => ∃ F C ss Q0 E0, G0 K F H C ∧ SAll K F vs ss ∧ sp ss C Q0 E0 ∧
  (∀ s C' v F' H', Q0 s C' → Step F H C F' H' C' → G0 K F' H' C' → SAt K F' v s → Q v H') ∧
  (∀ e C' F' H' cls dd, E0 e C' → Step F H C F' H' C' → G0 K F' H' C' → ErAt K F' e cls dd → E cls dd H')
/-- a body's entry -/
structure Bd where
  f : Addr
  cdv : Value
  A : Around
  outer : List Env
  s : Shared
  H : Hp
  E : XK
  F : Hp
  C : Cells
  er : Er → Cells → Prop
abbrev Rb (P : Program) (w : World) (K : PySem.W.Frag) (mg : Str → Option Value) (base : Heap) (N : List Str) (qual : Str) (sc : Scope) (b : Bd) : Rx :=
  ⟨cxOf (L2.CX P w) P w K mg base N qual sc b.f b.cdv b.A b.outer b.s b.H b.E, b.F, b.H, b.C, fun _ => b.er⟩
def startG (N : List Str) (ss : List SV) : Gm := ss.map some ++ List.replicate (N.length - ss.length) none
theorem start_sl {K : PySem.W.Frag} {F : Hp} {N : List Str} {vs : List V} {ss : List SV} (h : SAll K F vs ss) : SlAt K F (L2.start N vs) (startG N ss) ∧ (L2.start N vs).length = (startG N ss).length := by
  have hl := Paired.length h
  refine ⟨fun i s e => ?_, by unfold L2.start startG; simp [hl]⟩
  unfold startG at e
  by_cases hi : i < ss.length
  · rw [List.getElem?_append_left (by simpa using hi), List.getElem?_map] at e
    cases q : ss[i]? with
    | none => rw [q] at e; cases e
    | some s' =>
      rw [q] at e
      cases e
      obtain ⟨v, h1, h2⟩ := sall_get h q
      refine ⟨v, ?_, h2⟩
      unfold L2.start
      rw [List.getElem?_append_left (by simpa [hl] using hi), List.getElem?_map, h1]
      rfl
  · rw [List.getElem?_append_right (by simpa using hi), List.getElem?_replicate] at e
    split at e <;> cases e

section
variable {P : Program} {w : World} {K : PySem.W.Frag} {mg : Str → Option Value} {base : Heap}
/-- a def by its body -/
theorem fn_ok {x qual : Str} {params : Arguments} {body : List Stmt} {scope : Scope} {f : Addr} {fd : FuncData} {N ps : List Str} {k : Nat} {sp : DSp} (Fd : FunD K x qual params body scope [] [] f fd) (S : FnScope N ps scope) (len : ∀ ss C Q E, sp ss C Q E → ss.length = ps.length)
    (hb : ∀ (b : Bd) (ss : List SV) (Q : SV → Cells → Prop), Tk (Rb P w K mg base N qual scope b) → Room k (Rb P w K mg base N qual scope b).X.A → sp ss b.C Q b.er → SS (Rb P w K mg base N qual scope b) body (startG N ss) b.C { nx := fun _ C' => Q .non C', rt := Q }) :
    FnOk P w K mg base (L2.CX P w) (k + 1) f fd ps (toSp K sp) := by
  refine FunD.ok Fd S (fun vs H Q E h => ?_) fun cdv A outer s H vs Q E hr h => ?_
  · obtain ⟨F, C, ss, Q0, E0, g, r, hsp, _⟩ := h
    rw [Paired.length r]
    exact len _ _ _ _ hsp
  · obtain ⟨F, C, ss, Q0, E0, g, r, hsp, hQ, hE⟩ := h
    refine ⟨wSs _ body, pss_w, ?_⟩
    obtain ⟨hsl, hln⟩ := start_sl (N := N) r
    have a0 : At (Rb P w K mg base N qual scope ⟨f, cdv, A, outer, s, H, E, F, C, E0⟩) (L2.start N vs) (startG N ss) F H C := ⟨Step.refl F H C, g, hsl, hln⟩
    refine hb ⟨f, cdv, A, outer, s, H, E, F, C, E0⟩ ss Q0 ⟨fun cls d _ H => E cls d H, takes_of rfl rfl rfl rfl, fun σ Γ F' H' C' e cls dd a he hea => hE e C' F' H' cls dd he a.st a.g hea⟩ hr hsp (L2.start N vs) F H a0 _ ⟨fun σ Γ F' H' C' a _ q => ?_, fun σ Γ F' H' C' v s a _ r q => ?_, fun _ _ _ _ _ _ _ q => q, fun _ _ _ _ _ _ _ q => q⟩
    · exact hQ .non C' .non F' H' q a.st a.g .non
    · exact hQ s C' v F' H' q a.st a.g r

/-- a function of the module -/
def Fc (P : Program) (w : World) (K : PySem.W.Frag) (mg : Str → Option Value) (base : Heap) (x : Str) (k : Nat) (ps : List Str) (sp : DSp) : Prop :=
  ∃ f fd, mg x = some (.ref f) ∧ PySem.W.keepIn K (.ref f) = true ∧ Binds K fd ps [] ∧ FnOk P w K mg base (L2.CX P w) k f fd ps (toSp K sp)
theorem Fc.mono {x : Str} {j k : Nat} {ps : List Str} {sp : DSp} (h : Fc P w K mg base x j ps sp) (l : j ≤ k) : Fc P w K mg base x k ps sp :=
  let ⟨f, fd, a, b, c, d⟩ := h
  ⟨f, fd, a, b, c, d.mono l⟩
/-- a weaker promise -/
theorem Fc.imp {x : Str} {k : Nat} {ps : List Str} {sp sp' : DSp} (h : Fc P w K mg base x k ps sp) (l : ∀ ss C Q E, sp' ss C Q E → sp ss C Q E) : Fc P w K mg base x k ps sp' :=
  let ⟨f, fd, a, b, c, d⟩ := h
  ⟨f, fd, a, b, c, d.imp fun vs H Q E ⟨F, C, ss, Q0, E0, g, r, hsp, q⟩ => ⟨F, C, ss, Q0, E0, g, r, l _ _ _ _ hsp, q⟩⟩
/-- a def of the text stands behind the name -/
def HasF (K : PySem.W.Frag) (mg : Str → Option Value) (x : Str) (st : Stmt) : Prop := ∃ f fd, mg x = some (.ref f) ∧ FunD K x x (defArgs st) (defBody st) (defScope st) [] [] f fd
theorem fc_of {x : Str} {st : Stmt} {N ps : List Str} {k : Nat} {sp : DSp} (h : HasF K mg x st) (S : FnScope N ps (defScope st))
    (hbd : ∀ (kV doc pm : Value) (an : Option Addr) (cdv ct : Value) (us : List Value), us.length = ps.length → bindArgs (PySem.W.fnOf x x (defArgs st) (defBody st) (defScope st) .none kV doc pm an cdv ct) ⟨us, []⟩ = pure (ps.zip us))
    (len : ∀ ss C Q E, sp ss C Q E → ss.length = ps.length)
    (hb : ∀ (b : Bd) (ss : List SV) (Q : SV → Cells → Prop), Tk (Rb P w K mg base N x (defScope st) b) → Room k (Rb P w K mg base N x (defScope st) b).X.A → sp ss b.C Q b.er → SS (Rb P w K mg base N x (defScope st) b) (defBody st) (startG N ss) b.C { nx := fun _ C' => Q .non C', rt := Q }) :
    Fc P w K mg base x (k + 1) ps sp := by
  obtain ⟨f, fd, hm, Fd⟩ := h
  exact ⟨f, fd, hm, Fd.kp, Fd.bindsN hbd, fn_ok Fd S len hb⟩
end

section
variable {R : Rx} {Γ : Gm} {C C' : Cells} {σ : L2.St} {F H F' H' : Hp}
/-! ### calls -/
theorem sp_go {K : PySem.W.Frag} {sp : DSp} {vs : List V} {ss : List SV} {Q : SV → Cells → Prop} {QV : VK} {W : WX} (a : At R σ Γ F H C) (hk : R.X.K = K)
    (hW : ∀ σ Γ F H C e cls dd, At R σ Γ F H C → R.er Γ e C → ErAt R.X.K F e cls dd → W cls dd σ H) (r : SAll R.X.K F vs ss) (k : ∀ v s F' H' C', At R σ Γ F' H' C' → SAt R.X.K F' v s → Ex F F' → Q s C' → QV v H') (h : sp ss C Q (R.er Γ)) :
    toSp K sp vs H QV fun cls dd H' => W cls dd σ H' := by
  subst hk
  refine ⟨F, C, ss, Q, R.er Γ, a.g, r, h, fun s C' v F' H' q st g rv => k v s F' H' C' (a.step st g) rv st.exF q, fun e C' F' H' cls dd q st g he => hW σ Γ F' H' C' e cls dd (a.step st g) q he⟩
theorem ee_call {x : Str} {k : Nat} {ps : List Str} {sp : DSp} {e : Expr} {es : List Expr} {p pos : Pos} {Q : SV → Cells → Prop} (G : Fc R.X.prog R.X.w R.X.K R.X.mg R.X.base x k ps sp) (hr : Room k R.X.A) (tk : Tk R) (h : EA R (e :: es) Γ C fun ss C1 => sp ss C1 Q (R.er Γ))
    (hg : Gl R.X x := by rfl) (hdb : (x == ("__debug__" : Str)) = false := by decide) (he : starEach (e :: es) R.X.env = (false, eval e R.X.env) :: starEach es R.X.env := by rfl) (hpl : (backTo pos (starEach es R.X.env)).any (·.1) = false := by rfl) :
    EE R (.Call (.Name x p) (e :: es) [] pos) Γ C Q := fun σ F H a QV kk => by
  obtain ⟨f, fd, hm, hk, hb, G⟩ := G
  obtain ⟨W, tk, hW⟩ := tk
  refine wE_of (pe_callS (E := WE W) G hr hg hm hk hb (passAt tk) pa_w hdb he hpl) ?_
  refine h σ F H a _ fun vs ss F1 H1 C1 a1 r1 e1 h1 => ?_
  exact sp_go a1 rfl hW r1 (fun v s F' H' C' a' r e q => kk v s F' H' C' a' r (e1.trans e) q) h1
theorem ev_call {x : Str} {k : Nat} {ps : List Str} {sp : DSp} {e : Expr} {es : List Expr} {ss : List SV} {s : SV} {p pos : Pos} (G : Fc R.X.prog R.X.w R.X.K R.X.mg R.X.base x k ps sp) (hr : Room k R.X.A) (tk : Tk R) (h : AV R (e :: es) Γ C ss) (hs : ∀ Q, Q s C → sp ss C Q (R.er Γ))
    (hg : Gl R.X x := by rfl) (hdb : (x == ("__debug__" : Str)) = false := by decide) (he : starEach (e :: es) R.X.env = (false, eval e R.X.env) :: starEach es R.X.env := by rfl) (hpl : (backTo pos (starEach es R.X.env)).any (·.1) = false := by rfl) :
    EV R (.Call (.Name x p) (e :: es) [] pos) Γ C s := fun Q q => ee_call G hr tk (h _ (hs Q q)) hg hdb he hpl
theorem Binds.nil {K : PySem.W.Frag} {fd : FuncData} {ps : List Str} (b : Binds K fd ps []) : Binds K fd ps [] := b

/-! ### own exceptions -/
structure HasX (K : PySem.W.Frag) (mg : Str → Option Value) (x : Str) (Cx : Addr) : Prop where
  g : mg x = some (.ref Cx)
  x : PySem.W.excIn K Cx He.veBase "ValueError.__new__" = true
  k : PySem.W.keepIn K (.ref Cx) = true
  s : PySem.W.subIn K (.ref Cx) (.type "BaseException") = some true
  t : PySem.W.typeIn K (.ref Cx) = some (.type "type")
theorem s_raise {x m : Str} {Cx : Addr} {j : Nat} {p p2 pos pos' : Pos} {N : Nx} (hx : HasX R.X.K R.X.mg x Cx) (hc : R.X.calm = true) (tk : Tk R) (h : R.er Γ ⟨Cx, none⟩ C) (hg : Gl R.X x := by rfl) (hdb : (x == ("__debug__" : Str)) = false := by decide) :
    S1 R (.Raise (some (.Call (.Name x p) [.Constant (.str m) j p2] [] pos)) none pos') Γ C N := fun σ F H a D ok => by
  obtain ⟨W, tk, hW⟩ := tk
  refine wS_of (ps_raise hc tk (pmk_own PySem.F.excBase_ValueError hx.x hx.g hx.k (raises_own hx.s hx.t) hg hdb)) ?_
  exact hW σ Γ F H C ⟨Cx, none⟩ _ _ a h ⟨rfl, rfl⟩

/-! ### targets -/
def wG (X : Cx) (tg : Expr) : TG := fun v σ H Q => ∀ pins s u, Inv X pins σ H s → RelV v u → wpAny (model X.prog X.w) X.A (assign tg X.env u) (fun _ s' => ∃ σ' H', Inv X pins σ' H' s' ∧ Q σ' H') X.xe s
theorem pg_w {X : Cx} {tg : Expr} : PG X tg (wG X tg) := ⟨fun pins s σ H v u Q I r h => h pins s u I r⟩
theorem wG_of {X : Cx} {tg : Expr} {t : TG} (p : PG X tg t) {v : V} {σ : L2.St} {H : Hp} {Q : L2.St → Hp → Prop} (h : t v σ H Q) : wG X tg v σ H Q := fun pins s u I r => p.run pins s σ H v u Q I r h
/-- a value goes to a target -/
def GV (R : Rx) (tg : Expr) (s : SV) (Γ : Gm) (C : Cells) (Qg : Gm → Cells → Prop) : Prop := ∀ σ F H, At R σ Γ F H C → ∀ v, SAt R.X.K F v s → ∀ QV : L2.St → Hp → Prop, (∀ σ' Γ' F' H' C', At R σ' Γ' F' H' C' → Ex F F' → Qg Γ' C' → QV σ' H') → wG R.X tg v σ H QV
theorem gv_name (i : Nat) {x : Str} {pos : Pos} {s : SV} {Qg : Gm → Cells → Prop} (q : Qg (Γ.set i (some s)) C) (hN : R.X.N.Nodup) (hi : R.X.N[i]? = some x := by rfl) (hx : Loc R.X.env.scope x := by first | exact Or.inl rfl | exact Or.inr rfl) (hf : R.X.fn x = true ∨ R.X.env.scope.names.lookup x = some .local := by first | exact .inl rfl | exact .inr rfl) :
    GV R (.Name x pos) s Γ C Qg := fun σ F H a v r QV k => wG_of (pg_name hN hi hx hf) (k _ _ F H C (a.set r i) (Ex.refl F) q)
/-- a, b = a pair -/
theorem gv_tup2 (i j : Nat) {x y : Str} {px py pos : Pos} {kk : Nat} {d1 d2 : PyData} {Qg : Gm → Cells → Prop} (q : Qg ((Γ.set i (some (.d d1))).set j (some (.d d2))) C) (hc : R.X.calm = true) (hN : R.X.N.Nodup) (hi : R.X.N[i]? = some x := by rfl) (hj : R.X.N[j]? = some y := by rfl)
    (hx : Loc R.X.env.scope x := by first | exact Or.inl rfl | exact Or.inr rfl) (hy : Loc R.X.env.scope y := by first | exact Or.inl rfl | exact Or.inr rfl) (hf : R.X.fn x = true ∨ R.X.env.scope.names.lookup x = some .local := by first | exact .inl rfl | exact .inr rfl) (hf2 : R.X.fn y = true ∨ R.X.env.scope.names.lookup y = some .local := by first | exact .inl rfl | exact .inr rfl)
    (hs1 : (assignEach [.Name x px, .Name y py] R.X.env).map (·.2) = assign (.Name x px) R.X.env :: (assignEach [.Name y py] R.X.env).map (·.2) := by rfl) (hs2 : (assignEach [.Name y py] R.X.env).map (·.2) = assign (.Name y py) R.X.env :: (assignEach [] R.X.env).map (·.2) := by rfl)
    (hn : (assignEach [.Name x px, .Name y py] R.X.env).length = 2 := by rfl) (hst : (assignEach [.Name x px, .Name y py] R.X.env).findIdx? (·.1) = none := by rfl) :
    GV R (.Tuple [.Name x px, .Name y py] kk pos) (.d (.tuple [d1, d2])) Γ C Qg := fun σ F H a v r QV k => by
  refine wG_of (pg_tup hc (pgs_cons (pg_name hN hi hx hf) (pgs_cons (pg_name hN hj hy hf2) pgs_nil hs2) hs1) hn hst) ?_
  obtain ⟨p, xs, rfl, st, rd⟩ := sat_tup r
  cases rd with
  | cons r1 t =>
    cases t with
    | cons r2 t =>
      cases t
      exact ⟨p, _, rfl, a.g.sub.sqT st, rfl, _, _, rfl, _, _, rfl, rfl, k _ _ F H C ((a.set (s := .d d1) r1 i).set (s := .d d2) r2 j) (Ex.refl F) q⟩
/-- target = e -/
theorem s_asg {tg e : Expr} {pos : Pos} {N : Nx} (h : EE R e Γ C fun s C' => GV R tg s Γ C' fun Γ' C2 => N.nx Γ' C2) (hs : swapsWithSole [tg] e pos.line R.X.env = pure false := by rfl) (hw : swappedStores [tg] e R.X.env = pure none := by rfl) (h1 : (assignEach [tg] R.X.env).map (·.2) = [assign tg R.X.env] := by rfl) :
    S1 R (.Assign [tg] e pos) Γ C N := fun σ F H a D ok => by
  refine wS_of (ps_asg pe_w pg_w hs hw h1) ?_
  exact h σ F H a _ fun v s F' H' C' a' r e q => q σ F' H' a' v r _ fun σ' Γ' F2 H2 C2 a2 e2 q2 => ok.nx σ' Γ' F2 H2 C2 a2 (e.trans e2) q2

/-! ### what is walked -/
/-- n turns that yield data while P stands -/
def Yl (K : PySem.W.Frag) (F1 : Hp) (J : It) (P : Cells → Prop) (n : Nat) (y : Nat → PyData) : Prop := ∀ (R : Rx) σ Γ F H C, R.X.K = K → At R σ Γ F H C → Ex F1 F → P C → (∀ i, i < n → J.go i H) ∧ (∀ i, n ≤ i → J.stop i H) ∧ ∀ i x H', i < n → J.yld i H x H' → ∃ F', At R σ Γ F' H' C ∧ Ex F F' ∧ Dp K F' x (y i)
def wI (X : Cx) (tg iter : Expr) : TI := fun σ H R => ∀ pins s, Inv X pins σ H s → wpAny (model X.prog X.w) X.A (eval iter X.env) (fun v s1 => wpAny (model X.prog X.w) X.A (pyIter v) (PIE X pins σ tg R) X.xe s1) X.xe s
theorem pi_w {X : Cx} {tg iter : Expr} : PI X tg iter (wI X tg iter) := ⟨fun pins s σ H R I h => h pins s I⟩
theorem wI_of {X : Cx} {tg iter : Expr} {t : TI} (p : PI X tg iter t) {σ : L2.St} {H : Hp} {Q : It → Hp → Prop} (h : t σ H Q) : wI X tg iter σ H Q := fun pins s I => p.run pins s σ H Q I h
def EI (R : Rx) (tg iter : Expr) (Γ : Gm) (C : Cells) (Q : (Cells → Prop) → Nat → (Nat → PyData) → Cells → Prop) : Prop := ∀ σ F H, At R σ Γ F H C → ∀ QV : It → Hp → Prop, (∀ J F' H' C' P n y, At R σ Γ F' H' C' → Ex F F' → Yl R.X.K F' J P n y → Q P n y C' → QV J H') → wI R.X tg iter σ H QV
def gd (ds : List PyData) (i : Nat) : PyData := (ds[i]?).getD .none
theorem ei_lst {tg iter : Expr} {Q : (Cells → Prop) → Nat → (Nat → PyData) → Cells → Prop} (h : EE R iter Γ C fun s C1 => ∃ ds, s = .d (.list ds) ∧ Q (fun _ => True) ds.length (gd ds) C1) : EI R tg iter Γ C Q := fun σ F H a QV k => by
  refine wI_of (pi_list pe_w) ?_
  refine h σ F H a _ fun v s F1 H1 C1 a1 r1 e1 h1 => ?_
  obtain ⟨ds, rfl, q⟩ := h1
  obtain ⟨p, xs, rfl, sq, rd⟩ := sat_lst r1
  refine ⟨p, rfl, ⟨xs, a1.g.sub.sqL sq⟩, k (Itl R.X.K p) F1 H1 C1 _ _ _ a1 e1 ?_ q⟩
  intro R2 σ2 Γ2 F2 H2 C2 hk a2 e2 _
  rw [← hk] at sq rd
  have sq2 := a2.g.sub.sqL (e2.sqL sq)
  have ln := dpAll_len rd
  rw [← hk]
  refine ⟨fun i hi => ⟨xs, xs[i]'(by omega), sq2, List.getElem?_eq_getElem _⟩, fun i hi => ⟨xs, sq2, by omega⟩, fun i x H' hi y => ?_⟩
  obtain ⟨rfl, y⟩ := y
  refine ⟨F2, a2, Ex.refl F2, ?_⟩
  obtain ⟨v, h1, h2⟩ := dpAll_get rd (i := i) (List.getElem?_eq_getElem hi)
  have h3 := y xs sq2
  rw [h1] at h3
  cases h3
  unfold gd
  rw [List.getElem?_eq_getElem hi]
  exact dp_ex e2 h2
theorem ei_tup {tg iter : Expr} {Q : (Cells → Prop) → Nat → (Nat → PyData) → Cells → Prop} (h : EE R iter Γ C fun s C1 => ∃ ds, s = .d (.tuple ds) ∧ Q (fun _ => True) ds.length (gd ds) C1) : EI R tg iter Γ C Q := fun σ F H a QV k => by
  refine wI_of (pi_tup pe_w) ?_
  refine h σ F H a _ fun v s F1 H1 C1 a1 r1 e1 h1 => ?_
  obtain ⟨ds, rfl, q⟩ := h1
  obtain ⟨p, xs, rfl, sq, rd⟩ := sat_tup r1
  refine ⟨p, rfl, ⟨xs, a1.g.sub.sqT sq⟩, k (Itt R.X.K p) F1 H1 C1 _ _ _ a1 e1 ?_ q⟩
  intro R2 σ2 Γ2 F2 H2 C2 hk a2 e2 _
  rw [← hk] at sq rd
  have sq2 := a2.g.sub.sqT (e2.sqT sq)
  have ln := dpAll_len rd
  rw [← hk]
  refine ⟨fun i hi => ⟨xs, xs[i]'(by omega), sq2, List.getElem?_eq_getElem _⟩, fun i hi => ⟨xs, sq2, by omega⟩, fun i x H' hi y => ?_⟩
  obtain ⟨rfl, y⟩ := y
  refine ⟨F2, a2, Ex.refl F2, ?_⟩
  obtain ⟨v, h1, h2⟩ := dpAll_get rd (i := i) (List.getElem?_eq_getElem hi)
  have h3 := y xs sq2
  rw [h1] at h3
  cases h3
  unfold gd
  rw [List.getElem?_eq_getElem hi]
  exact dp_ex e2 h2
/-- a list cell that the body leaves as it is -/
theorem ei_cel {tg iter : Expr} {Q : (Cells → Prop) → Nat → (Nat → PyData) → Cells → Prop} (h : EE R iter Γ C fun s C1 => ∃ p ds, s = .c p ∧ C1 p = some (.lst (ds.map SV.d)) ∧ Q (fun C => C p = some (.lst (ds.map SV.d))) ds.length (gd ds) C1) : EI R tg iter Γ C Q := fun σ F H a QV k => by
  refine wI_of (pi_list pe_w) ?_
  refine h σ F H a _ fun v s F1 H1 C1 a1 r1 e1 h1 => ?_
  obtain ⟨p, ds, rfl, hp, q⟩ := h1
  obtain rfl : v = .ref p := r1
  obtain ⟨vs0, hv0, _⟩ := a1.g.cel p _ hp
  refine ⟨p, rfl, ⟨vs0, .inl (.inl hv0)⟩, k (Itl R.X.K p) F1 H1 C1 _ _ _ a1 e1 ?_ q⟩
  intro R2 σ2 Γ2 F2 H2 C2 hk a2 e2 hp2
  obtain ⟨xs, hv, rs⟩ := a2.g.cel p _ hp2
  have rd := sall_dp rs
  have sq2 : SqL R2.X.K H2 p xs := .inl (.inl hv)
  have ln := dpAll_len rd
  rw [← hk]
  refine ⟨fun i hi => ⟨xs, xs[i]'(by omega), sq2, List.getElem?_eq_getElem _⟩, fun i hi => ⟨xs, sq2, by omega⟩, fun i x H' hi y => ?_⟩
  obtain ⟨rfl, y⟩ := y
  refine ⟨F2, a2, Ex.refl F2, ?_⟩
  obtain ⟨v, h1, h2⟩ := dpAll_get rd (i := i) (List.getElem?_eq_getElem hi)
  have h3 := y xs sq2
  rw [h1] at h3
  cases h3
  unfold gd
  rw [List.getElem?_eq_getElem hi]
  exact h2
theorem ei_rng1 {tg a : Expr} {p pos : Pos} {Q : (Cells → Prop) → Nat → (Nat → PyData) → Cells → Prop} (hm : R.X.mg "range" = none) (h : EE R a Γ C fun s C1 => ∃ n : Int, s = .int n ∧ -(2 ^ 62) ≤ n ∧ n < 2 ^ 62 ∧ Q (fun _ => True) n.toNat (fun i => .int i) C1) (hg : Gl R.X "range" := by rfl) (hs : starEach [a] R.X.env = [(false, eval a R.X.env)] := by rfl) (hs0 : starEach [a] R.X.env = (false, eval a R.X.env) :: starEach [] R.X.env := by rfl) : EI R tg (.Call (.Name "range" p) [a] [] pos) Γ C Q := fun σ F H at0 QV k => by
  refine wI_of (pi_range1 hg hm (pa_cons pe_w pa_nil hs0) hs) ?_
  refine h σ F H at0 _ fun v s F1 H1 C1 a1 r1 e1 h1 => ?_
  obtain ⟨n, rfl, l1, l2, q⟩ := h1
  refine ⟨n, by rw [sat_int r1], l1, l2, k (Itr 0 n.toNat) F1 H1 C1 _ _ _ a1 e1 ?_ q⟩
  intro R2 σ2 Γ2 F2 H2 C2 hk a2 e2 _
  refine ⟨fun i hi => hi, fun i hi => hi, fun i x H' hi y => ?_⟩
  obtain ⟨rfl, rfl⟩ := y
  exact ⟨F2, a2, Ex.refl F2, by rw [Int.zero_add]; exact Dp.int _⟩
theorem ei_rng2 {tg a b : Expr} {p pos : Pos} {Q : (Cells → Prop) → Nat → (Nat → PyData) → Cells → Prop} (hm : R.X.mg "range" = none) (h : EA R [a, b] Γ C fun ss C1 => ∃ m n : Int, ss = [.int m, .int n] ∧ (-(2 ^ 62) ≤ m ∧ m < 2 ^ 62 ∧ -(2 ^ 62) ≤ n ∧ n < 2 ^ 62) ∧ Q (fun _ => True) (n - m).toNat (fun i => .int (m + i)) C1) (hg : Gl R.X "range" := by rfl) (hs : starEach [a, b] R.X.env = [(false, eval a R.X.env), (false, eval b R.X.env)] := by rfl) (hs2 : starEach [b] R.X.env = [(false, eval b R.X.env)] := by rfl) : EI R tg (.Call (.Name "range" p) [a, b] [] pos) Γ C Q := fun σ F H at0 QV k => by
  refine wI_of (pi_range2 hg hm pa_w hs hs2) ?_
  refine h σ F H at0 _ fun vs ss F1 H1 C1 a1 r1 e1 h1 => ?_
  obtain ⟨m, n, rfl, l, q⟩ := h1
  obtain ⟨v, u, rfl, r2, r3⟩ := sall2 r1
  refine ⟨m, n, by rw [sat_int r2, sat_int r3], l, k (Itr m (n - m).toNat) F1 H1 C1 _ _ _ a1 e1 ?_ q⟩
  intro R2 σ2 Γ2 F2 H2 C2 hk a2 e2 _
  refine ⟨fun i hi => hi, fun i hi => hi, fun i x H' hi y => ?_⟩
  obtain ⟨rfl, rfl⟩ := y
  exact ⟨F2, a2, Ex.refl F2, Dp.int _⟩
theorem ei_str {tg iter : Expr} {Q : (Cells → Prop) → Nat → (Nat → PyData) → Cells → Prop} (h : EE R iter Γ C fun s C1 => ∃ z : Str, s = .str z ∧ Q (fun _ => True) z.cps.size (fun i => .str ⟨#[z.cps.getD i 0]⟩) C1) : EI R tg iter Γ C Q := fun σ F H at0 QV k => by
  refine wI_of (pi_str pe_w) ?_
  refine h σ F H at0 _ fun v s F1 H1 C1 a1 r1 e1 h1 => ?_
  obtain ⟨z, rfl, q⟩ := h1
  refine ⟨z, sat_str r1, k (Its z) F1 H1 C1 _ _ _ a1 e1 ?_ q⟩
  intro R2 σ2 Γ2 F2 H2 C2 hk a2 e2 _
  refine ⟨fun i hi => hi, fun i hi => hi, fun i x H' hi y => ?_⟩
  obtain ⟨rfl, c, hc, rfl⟩ := y
  refine ⟨F2, a2, Ex.refl F2, ?_⟩
  have e : z.cps.getD i 0 = c := by
    rw [Array.getD_eq_getD_getElem?, hc]
    rfl
  show Dp R.X.K F2 _ (.str ⟨#[z.cps.getD i 0]⟩)
  rw [e]
  exact Dp.str _
/-- for target in iter: body -/
theorem s_for {tg iter : Expr} {body : List Stmt} {pos : Pos} {N : Nx} (hp : PassesOwn (model R.X.prog R.X.w) R.X.A R.X.env R.X.xe) (hc : R.X.calm = true)
    (h : EI R tg iter Γ C fun P n y C1 => ∃ I : Nat → Gm → Cells → Prop, I 0 Γ C1 ∧ (∀ i Γ' C', I i Γ' C' → P C') ∧ (∀ i Γ' C', i < n → I i Γ' C' → GV R tg (.d (y i)) Γ' C' fun Γ2 C2 => SS R body Γ2 C2 { N with nx := I (i + 1), ct := I (i + 1), bk := N.nx }) ∧ ∀ Γ' C', I n Γ' C' → N.nx Γ' C')
    (hs : ∀ x, foldedSetIterable iter R.X.env x = pure x := by intro _; rfl) : S1 R (.For tg iter body [] pos) Γ C N := fun σ F H at0 D ok => by
  refine wS_of (ps_for hp hc pi_w pg_w pss_w hs) ?_
  refine h σ F H at0 _ fun J F1 H1 C1 P n y a1 e1 yl h1 => ?_
  obtain ⟨I, i0, hP, turn, done⟩ := h1
  refine ⟨fun i m σ' H' => m = n - i ∧ i ≤ n ∧ ∃ Γ' F' C', At R σ' Γ' F' H' C' ∧ Ex F1 F' ∧ I i Γ' C', ⟨n, by simp, Nat.zero_le _, Γ, F1, C1, a1, Ex.refl F1, i0⟩, ?_⟩
  rintro i m σ2 H2 ⟨rfl, hi, Γ2, F2, C2, a2, e2, i2⟩
  obtain ⟨go, stop, yld⟩ := yl R σ2 Γ2 F2 H2 C2 rfl a2 e2 (hP i Γ2 C2 i2)
  by_cases hlt : i < n
  · refine .inr ⟨go i hlt, fun σ' H' => ∃ Γ' F' C', At R σ' Γ' F' H' C' ∧ Ex F1 F' ∧ I (i + 1) Γ' C', fun σ' H' ⟨Γ', F', C', a', e', q⟩ => ⟨n - (i + 1), by omega, rfl, hlt, Γ', F', C', a', e', q⟩, fun x H' hy => ?_⟩
    obtain ⟨F3, a3, e3, dx⟩ := yld i x H' hlt hy
    refine turn i Γ2 C2 hlt i2 σ2 F3 H' a3 x dx _ fun σ4 Γ4 F4 H4 C4 a4 e4 q4 => ?_
    have e14 := ((e1.trans e2).trans e3).trans e4
    have e24 := (e2.trans e3).trans e4
    refine q4 σ4 F4 H4 a4 _ ⟨fun σ' Γ' F' H' C' a' e' q => ⟨Γ', F', C', a', e24.trans e', q⟩, fun σ' Γ' F' H' C' v s a' e' => ok.rt σ' Γ' F' H' C' v s a' (e14.trans e'), fun σ' Γ' F' H' C' a' e' => ok.nx σ' Γ' F' H' C' a' (e14.trans e'), fun σ' Γ' F' H' C' a' e' q => ⟨Γ', F', C', a', e24.trans e', q⟩⟩
  · have : i = n := by omega
    subst this
    exact .inl ⟨stop _ (Nat.le_refl _), ok.nx σ2 Γ2 F2 H2 C2 a2 (e1.trans e2) (done Γ2 C2 i2)⟩
end
end Dl

namespace Dl
open PySem PySem.Spec PyProof.Rows L2
section
variable {R : Rx} {Γ : Gm} {C C' : Cells} {σ : L2.St} {F H F' H' : Hp}

/-! ### a value that is read as data as it stands -/
def DV (C : Cells) (s : SV) (d : PyData) : Prop := s = .d d ∨ ∃ p ds, s = .c p ∧ C p = some (.lst (ds.map SV.d)) ∧ d = .list ds
theorem dv_d {d : PyData} : DV C (.d d) d := .inl rfl
theorem dv_c {p : Addr} {ds : List PyData} (h : C p = some (.lst (ds.map SV.d))) : DV C (.c p) (.list ds) := .inr ⟨p, ds, rfl, h, rfl⟩
theorem dv_dp {v : V} {s : SV} {d : PyData} (a : At R σ Γ F H C) (r : SAt R.X.K F v s) (h : DV C s d) : Dp R.X.K H v d := by
  rcases h with rfl | ⟨p, ds, rfl, hp, rfl⟩
  · exact dp_ex a.g.sub r
  · obtain ⟨vs, hv, rs⟩ := a.g.cel p _ hp
    obtain rfl : v = .ref p := r
    exact .lst (.inl (.inl hv)) (dpAll_ex a.g.sub (sall_dp rs))
section
variable {a b e : Expr} {pos p : Pos} {x y : PyData} {s t : SV}
theorem ov_eqV (hx : DV C s x) (hy : DV C t y) (h1 : SeqAt.shaped x = true) (h2 : SeqAt.shaped y = true) : OV R Γ C (rEqD R.X.K) s t (.bl (PyData.eqv x y)) := fun σ F H a v u r1 r2 QV k =>
  ⟨x, y, dv_dp a r1 hx, dv_dp a r2 hy, h1, h2, k _ F H a (Dp.bl _) (Ex.refl F)⟩
theorem ov_neV (hx : DV C s x) (hy : DV C t y) (h1 : SeqAt.shaped x = true) (h2 : SeqAt.shaped y = true) : OV R Γ C (rNeD R.X.K) s t (.bl (!PyData.eqv x y)) := fun σ F H a v u r1 r2 QV k =>
  ⟨x, y, dv_dp a r1 hx, dv_dp a r2 hy, h1, h2, k _ F H a (Dp.bl _) (Ex.refl F)⟩
theorem ev_eqV (hu : R.X.A.units + 64 < cLine) (ha : EV R a Γ C s) (hb : EV R b Γ C t) (hx : DV C s x) (hy : DV C t y) (h1 : SeqAt.shaped x = true) (h2 : SeqAt.shaped y = true) : EV R (.Compare a [.Eq] [b] pos) Γ C (.bl (PyData.eqv x y)) := ev_op2 (pe_cmpR (op_eqD hu) pe_w pe_w (nomark _)) ha hb (ov_eqV hx hy h1 h2)
theorem tv_eqV (hu : R.X.A.units + 64 < cLine) (ha : EV R a Γ C s) (hb : EV R b Γ C t) (hx : DV C s x) (hy : DV C t y) (h1 : SeqAt.shaped x = true) (h2 : SeqAt.shaped y = true) : TV R (.Compare a [.Eq] [b] pos) Γ C (PyData.eqv x y) := tv_op2 (pt_cmpR (op_eqD hu) pe_w pe_w (nomark _)) ha hb (ov_eqV hx hy h1 h2)
theorem tv_neV (hu : R.X.A.units + 64 < cLine) (ha : EV R a Γ C s) (hb : EV R b Γ C t) (hx : DV C s x) (hy : DV C t y) (h1 : SeqAt.shaped x = true) (h2 : SeqAt.shaped y = true) : TV R (.Compare a [.NotEq] [b] pos) Γ C (!PyData.eqv x y) := tv_op2 (pt_cmpR (op_neD hu) pe_w pe_w (nomark _)) ha hb (ov_neV hx hy h1 h2)
theorem ev_neV (hu : R.X.A.units + 64 < cLine) (ha : EV R a Γ C s) (hb : EV R b Γ C t) (hx : DV C s x) (hy : DV C t y) (h1 : SeqAt.shaped x = true) (h2 : SeqAt.shaped y = true) : EV R (.Compare a [.NotEq] [b] pos) Γ C (.bl (!PyData.eqv x y)) := ev_op2 (pe_cmpR (op_neD hu) pe_w pe_w (nomark _)) ha hb (ov_neV hx hy h1 h2)
/-- x in a list of data -/
theorem ov_inV {ds : List PyData} (hx : DV C s x) (hy : DV C t (.list ds)) (h1 : SeqAt.shaped x = true) (h2 : SeqAt.shaped (.list ds) = true) : OV R Γ C (rInD R.X.K) s t (.bl (ds.any fun z => PyData.eqv z x)) := fun σ F H a v u r1 r2 QV k =>
  ⟨x, ds, dv_dp a r1 hx, dv_dp a r2 hy, h1, h2, k _ F H a (Dp.bl _) (Ex.refl F)⟩
theorem ov_niV {ds : List PyData} (hx : DV C s x) (hy : DV C t (.list ds)) (h1 : SeqAt.shaped x = true) (h2 : SeqAt.shaped (.list ds) = true) : OV R Γ C (rNotInD R.X.K) s t (.bl (!ds.any fun z => PyData.eqv z x)) := fun σ F H a v u r1 r2 QV k =>
  ⟨x, ds, dv_dp a r1 hx, dv_dp a r2 hy, h1, h2, k _ F H a (Dp.bl _) (Ex.refl F)⟩
theorem tv_inV {ds : List PyData} (hu : R.X.A.units + 65 < cLine) (ha : EV R a Γ C s) (hb : EV R b Γ C t) (hx : DV C s x) (hy : DV C t (.list ds)) (h1 : SeqAt.shaped x = true) (h2 : SeqAt.shaped (.list ds) = true) (hm : behindInMarks .In b = false := by rfl) : TV R (.Compare a [.In] [b] pos) Γ C (ds.any fun z => PyData.eqv z x) := tv_op2 (pt_cmpR (op_inD hu) pe_w pe_w hm) ha hb (ov_inV hx hy h1 h2)
theorem tv_niV {ds : List PyData} (hu : R.X.A.units + 65 < cLine) (ha : EV R a Γ C s) (hb : EV R b Γ C t) (hx : DV C s x) (hy : DV C t (.list ds)) (h1 : SeqAt.shaped x = true) (h2 : SeqAt.shaped (.list ds) = true) (hm : behindInMarks .NotIn b = false := by rfl) : TV R (.Compare a [.NotIn] [b] pos) Γ C (!ds.any fun z => PyData.eqv z x) := tv_op2 (pt_cmpR (op_notInD hu) pe_w pe_w hm) ha hb (ov_niV hx hy h1 h2)
/-- l.index(x) -/
theorem ev_index {ds : List PyData} {j : Nat} {z : PyData} {apos : Pos} (hu : R.X.A.units + 65 < cLine) (ha : EV R a Γ C t) (he : EV R e Γ C s) (hx : DV C s x) (hy : DV C t (.list ds)) (h1 : SeqAt.shaped x = true) (h2 : SeqAt.shaped (.list ds) = true) (hz : ds[j]? = some z) (hj : PyData.eqv z x = true) (hn : ∀ (m : Nat) (z' : PyData), m < j → ds[m]? = some z' → PyData.eqv z' x = false)
    (hbase : attributeBase a "index" R.X.env (eval a R.X.env) = eval a R.X.env := by rfl)
    (hfew : ((backTo pos (starEach [e] R.X.env)).all (fun x => !x.1) && (backToKw pos (keywordEach [] R.X.env)).all (fun x => x.1.isSome) && decide ([e].length + ([] : List Keyword).length + (if ([] : List Keyword).isEmpty then 0 else 1) < 30)) = true := by rfl)
    (hline : (apos.endLine == pos.line) = true := by rfl) (hs : starEach [e] R.X.env = (false, eval e R.X.env) :: starEach [] R.X.env := by rfl) (hplain : (backTo pos (starEach [] R.X.env)).any (·.1) = false := by rfl) :
    EV R (.Call (.Attribute a "index" apos) [e] [] pos) Γ C (.int j) := fun Q q σ F H at0 QV k => by
  refine wE_of (pe_bm PySem.F.plainAttrs_list PySem.F.slot_list_index PySem.F.type_list_index (mt_indexD hu) pe_w (pa_cons pe_w pa_nil hs) hbase hfew hline hs hplain) ?_
  refine ha (fun s C' => s = t ∧ C' = C) ⟨rfl, rfl⟩ σ F H at0 _ fun v s' F1 H1 C1 a1 r1 e1 h1' => ?_
  obtain ⟨rfl, rfl⟩ := h1'
  have hd := dv_dp a1 r1 hy
  have hl : ∃ p xs, v = .ref p ∧ SqL R.X.K H1 p xs := by
    cases hd with
    | lst sq _ => exact ⟨_, _, rfl, sq⟩
  obtain ⟨p, xs, rfl, sq⟩ := hl
  refine ⟨.inl ⟨rfl, xs, sq⟩, ?_⟩
  refine he (fun s' C' => s' = s ∧ C' = C1) ⟨rfl, rfl⟩ σ F1 H1 a1 _ fun u s2 F2 H2 C2 a2 r2 e2 h2' => ?_
  obtain ⟨rfl, rfl⟩ := h2'
  exact ⟨p, u, x, ds, j, z, rfl, rfl, dv_dp a2 (r1.ex e2) hy, dv_dp a2 r2 hx, h2, h1, hz, hj, hn, k _ (.int j) F2 H2 C2 a2 (Dp.int _) (e1.trans e2) q⟩
/-- list(xs) -/
theorem call_list_dv {Q : SV → Cells → Prop} {QV : VK} {v : V} {ds : List PyData} (a : At R σ Γ F H C) (hv : Dp R.X.K H v (.list ds)) : ∃ p ys, v = .ref p ∧ (SqL R.X.K H p ys ∨ SqT R.X.K H p ys) ∧ DpAll R.X.K H ys ds := by
  cases hv with
  | lst sq r => exact ⟨_, _, rfl, .inl sq, r⟩
end

/-! ### isinstance -/
def tyN : PyData → String
  | .none => "NoneType"
  | .bool _ => "bool"
  | .int _ => "int"
  | .str _ => "str"
  | .list _ => "list"
  | .tuple _ => "tuple"
  | .dict _ => "dict"
theorem tyx_of {K : PySem.W.Frag} {v : V} {d : PyData} (h : Dp K H v d) : TyX K H v (.type (tyN d)) := by
  cases h with
  | non => exact .base .non
  | bl b => exact .base (.bl b)
  | int i => exact .base (.int i)
  | str x => exact .base (.str x)
  | lst sq _ =>
    rcases sq with (h | ⟨o, h⟩) | ⟨o, its, n, hk, hc, _⟩
    · exact .base (.lst h)
    · exact .base (.frz h)
    · exact .kList hk hc
  | tup sq _ =>
    rcases sq with (h | ⟨o, h⟩) | ⟨o, its, n, hk, hc, _⟩
    · exact .base (.tup h)
    · exact .fTuple h
    · exact .kTuple hk hc
theorem ev_isTy {n : String} {x : Str} {a : Expr} {s : SV} {d : PyData} {b : Bool} {p p2 pos : Pos} (hm : R.X.mg "isinstance" = none) (hn : R.X.mg x = none) (hbn : bootBuiltins x = some (.type n)) (ha : EV R a Γ C s) (hd : DV C s d) (hk : kitB (tyN d) n = some b)
    (hg : Gl R.X "isinstance" := by rfl) (hg2 : Gl R.X x := by rfl) (hn2 : x ≠ "__name__" := by decide) (hd2 : (x == ("__debug__" : Str)) = false := by decide)
    (hs : starEach [a, .Name x p2] R.X.env = (false, eval a R.X.env) :: starEach [.Name x p2] R.X.env := by rfl) (hs2 : starEach [.Name x p2] R.X.env = (false, eval (.Name x p2) R.X.env) :: starEach [] R.X.env := by rfl) (hpl : (backTo pos (starEach [.Name x p2] R.X.env)).any (·.1) = false := by rfl) :
    EV R (.Call (.Name "isinstance" p) [a, .Name x p2] [] pos) Γ C (.bl b) := fun Q q σ F H at0 QV k => by
  refine wE_of (pe_callB call_isi hg hm (by decide +kernel) (pa_cons pe_w (pa_cons (pe_bltn (v := .ty n) hg2 hn hbn rfl hn2 hd2) pa_nil hs2) hs) (by decide) (by decide) hs hpl) ?_
  refine ha (fun s' C' => s' = s ∧ C' = C) ⟨rfl, rfl⟩ σ F H at0 _ fun v s' F1 H1 C1 a1 r1 e1 h1 => ?_
  obtain ⟨rfl, rfl⟩ := h1
  exact ⟨v, .ty n, .type (tyN d), .type n, b, rfl, .ty n, tyx_of (dv_dp a1 r1 hd), kit_ty hk, k _ (.bl b) F1 H1 C1 a1 (Dp.bl _) e1 q⟩

/-! ### lists that change -/
theorem ee_append {o e : Expr} {apos pos : Pos} {Q : SV → Cells → Prop} (h : EE R o Γ C fun so C1 => ∃ p ss0, so = .c p ∧ C1 p = some (.lst ss0) ∧ EE R e Γ C1 fun s C2 => ∃ ss, C2 p = some (.lst ss) ∧ ss.length < sizeLine ∧ Q .non (cupd C2 p (.lst (ss ++ [s]))))
    (hbase : attributeBase o "append" R.X.env (eval o R.X.env) = eval o R.X.env := by rfl)
    (hfew : ((backTo pos (starEach [e] R.X.env)).all (fun x => !x.1) && (backToKw pos (keywordEach [] R.X.env)).all (fun x => x.1.isSome) && decide ([e].length + ([] : List Keyword).length + (if ([] : List Keyword).isEmpty then 0 else 1) < 30)) = true := by rfl)
    (hline : (apos.endLine == pos.line) = true := by rfl) (hs : starEach [e] R.X.env = (false, eval e R.X.env) :: starEach [] R.X.env := by rfl) (hplain : (backTo pos (starEach [] R.X.env)).any (·.1) = false := by rfl) :
    EE R (.Call (.Attribute o "append" apos) [e] [] pos) Γ C Q := fun σ F H at0 QV k => by
  refine wE_of (pe_bm PySem.F.plainAttrs_list PySem.F.slot_list_append PySem.F.type_list_append mt_append pe_w (pa_cons pe_w pa_nil hs) hbase hfew hline hs hplain) ?_
  refine h σ F H at0 _ fun v so F1 H1 C1 a1 r1 e1 h1 => ?_
  obtain ⟨p, ss0, rfl, hp, h1⟩ := h1
  obtain rfl : v = .ref p := r1
  obtain ⟨vs0, hv0, _⟩ := a1.g.cel p _ hp
  refine ⟨.inl ⟨rfl, vs0, .inl (.inl hv0)⟩, ?_⟩
  refine h1 σ F1 H1 a1 _ fun u s F2 H2 C2 a2 r2 e2 h2 => ?_
  obtain ⟨ss, hp2, hl, q⟩ := h2
  obtain ⟨vs, hv, rs⟩ := a2.g.cel p _ hp2
  refine ⟨p, vs, u, rfl, rfl, hv, by rw [Paired.length rs]; exact hl, ?_⟩
  exact k .non .non F2 _ _ (a2.put (c := .lst (ss ++ [s])) hp2 ⟨vs ++ [u], upd_same, sall_append rs (.cons r2 .nil)⟩) .non (e1.trans e2) q
theorem ixN_len {n m : Nat} {i : Int} (h : n = m) : ixN n i = ixN m i := by rw [h]
theorem gv_sub {o i : Expr} {pos : Pos} {s : SV} {Qg : Gm → Cells → Prop} (h : EE R o Γ C fun so C1 => EE R i Γ C1 fun si C2 => ∃ p ss k j, so = .c p ∧ si = .int k ∧ C2 p = some (.lst ss) ∧ ixN ss.length k = some j ∧ Qg Γ (cupd C2 p (.lst (ss.set j s))))
    (ha : ∀ v, assign (.Subscript o i pos) R.X.env v = (do
      let ov ← holding [v] (eval o R.X.env)
      let iv ← holding [v, ov] (eval i R.X.env)
      standAt pos
      holding [v, ov, iv] (setItem ov iv v)
      release [v, ov, iv] []) := by intro _; rfl) : GV R (.Subscript o i pos) s Γ C Qg := fun σ F H at0 v r QV k => by
  refine wG_of (pg_sub pe_w pe_w set_list ha) ?_
  refine h σ F H at0 _ fun vo so F1 H1 C1 a1 r1 e1 h1 => ?_
  refine h1 σ F1 H1 a1 _ fun vi si F2 H2 C2 a2 r2 e2 h2 => ?_
  obtain ⟨p, ss, kk, j, rfl, rfl, hp, hj, q⟩ := h2
  obtain rfl : vo = .ref p := r1
  rw [sat_int r2]
  obtain ⟨vs, hv, rs⟩ := a2.g.cel p _ hp
  refine ⟨p, vs, kk, j, rfl, rfl, hv, by rw [Paired.length rs]; exact hj, ?_⟩
  exact k σ Γ F2 _ _ (a2.put (c := .lst (ss.set j s)) hp ⟨vs.set j v, upd_same, sall_set rs (r.ex (e1.trans e2)) j⟩) (e1.trans e2) q
/-- list(x): a new cell | data -/
theorem ee_listC {e : Expr} {p pos : Pos} {Q : SV → Cells → Prop} (hm : R.X.mg "list" = none) (h : EE R e Γ C fun s C1 => ∃ ds, DV C1 s (.list ds) ∧ ∀ q, C1 q = none → Q (.c q) (cupd C1 q (.lst (ds.map SV.d)))) (hg : Gl R.X "list" := by rfl) (hs : starEach [e] R.X.env = (false, eval e R.X.env) :: starEach [] R.X.env := by rfl) (hpl : (backTo pos (starEach [] R.X.env)).any (·.1) = false := by rfl) : EE R (.Call (.Name "list" p) [e] [] pos) Γ C Q := fun σ F H at0 QV k => by
  refine wE_of (pe_callTy call_list_of hg hm (by decide +kernel) (pa_cons pe_w pa_nil hs) (by decide) (by decide) hs hpl) ?_
  refine h σ F H at0 _ fun v s F1 H1 C1 a1 r1 e1 h1 => ?_
  obtain ⟨ds, hd, q⟩ := h1
  rcases hd with rfl | ⟨c, ds', rfl, hc, hl⟩
  · obtain ⟨a, xs, rfl, sq, rd⟩ := sat_lst r1
    refine ⟨a, xs, rfl, .inl (a1.g.sub.sqL sq), fun l hl => ?_⟩
    exact k _ (.c l) F1 _ _ (a1.cell (c := .lst (ds.map SV.d)) hl ⟨xs, upd_same, dp_sall rd⟩) rfl e1 (q l (a1.g.sl hl).2)
  · cases hl
    obtain ⟨vs, hv, rs⟩ := a1.g.cel c _ hc
    obtain rfl : v = .ref c := r1
    refine ⟨c, vs, rfl, .inl (.inl (.inl hv)), fun l hl => ?_⟩
    exact k _ (.c l) F1 _ _ (a1.cell (c := .lst (ds.map SV.d)) hl ⟨vs, upd_same, rs⟩) rfl e1 (q l (a1.g.sl hl).2)
theorem ee_listD {e : Expr} {p pos : Pos} {Q : SV → Cells → Prop} (hm : R.X.mg "list" = none) (h : EE R e Γ C fun s C1 => ∃ ds, DV C1 s (.list ds) ∧ Q (.d (.list ds)) C1) (hg : Gl R.X "list" := by rfl) (hs : starEach [e] R.X.env = (false, eval e R.X.env) :: starEach [] R.X.env := by rfl) (hpl : (backTo pos (starEach [] R.X.env)).any (·.1) = false := by rfl) : EE R (.Call (.Name "list" p) [e] [] pos) Γ C Q := fun σ F H at0 QV k => by
  refine wE_of (pe_callTy call_list_of hg hm (by decide +kernel) (pa_cons pe_w pa_nil hs) (by decide) (by decide) hs hpl) ?_
  refine h σ F H at0 _ fun v s F1 H1 C1 a1 r1 e1 h1 => ?_
  obtain ⟨ds, hd, q⟩ := h1
  rcases hd with rfl | ⟨c, ds', rfl, hc, hl⟩
  · obtain ⟨a, xs, rfl, sq, rd⟩ := sat_lst r1
    refine ⟨a, xs, rfl, .inl (a1.g.sub.sqL sq), fun l hl => ?_⟩
    obtain ⟨a2, e2⟩ := a1.lay (o := .lst xs) hl
    exact k _ (.d (.list ds)) _ _ C1 a2 (.lst (.inl (.inl upd_same)) (dpAll_ex e2 rd)) (e1.trans e2) q
  · cases hl
    obtain ⟨vs, hv, rs⟩ := a1.g.cel c _ hc
    obtain rfl : v = .ref c := r1
    refine ⟨c, vs, rfl, .inl (.inl (.inl hv)), fun l hl => ?_⟩
    obtain ⟨a2, e2⟩ := a1.lay (o := .lst vs) hl
    exact k _ (.d (.list ds)) _ _ C1 a2 (.lst (.inl (.inl upd_same)) (dpAll_ex e2 (sall_dp rs))) (e1.trans e2) q
theorem ev_listD {e : Expr} {p pos : Pos} {ds : List PyData} {s : SV} (hm : R.X.mg "list" = none) (h : EV R e Γ C s) (hd : DV C s (.list ds)) (hg : Gl R.X "list" := by rfl) (hs : starEach [e] R.X.env = (false, eval e R.X.env) :: starEach [] R.X.env := by rfl) (hpl : (backTo pos (starEach [] R.X.env)).any (·.1) = false := by rfl) : EV R (.Call (.Name "list" p) [e] [] pos) Γ C (.d (.list ds)) := fun Q q => ee_listD hm (h _ ⟨ds, hd, q⟩) hg hs hpl

/-! ### instances -/
theorem fall_lookup {K : PySem.W.Frag} {f : Str} {s : SV} : ∀ {vs : List (Str × V)} {ss : List (Str × SV)}, FAll K F vs ss → ss.lookup f = some s → ∃ v, vs.lookup f = some v ∧ SAt K F v s
  | _, _, .nil, e => by cases e
  | (k, v) :: _, (k2, s2) :: _, .cons r t, e => by
    obtain ⟨h1, h2⟩ := r
    simp only at h1
    subst h1
    simp only [List.lookup] at e ⊢
    cases q : (f == k) with
    | true =>
      rw [q] at e
      cases e
      exact ⟨v, rfl, h2⟩
    | false =>
      rw [q] at e
      exact fall_lookup t e
theorem fall_none {K : PySem.W.Frag} {f : Str} : ∀ {vs : List (Str × V)} {ss : List (Str × SV)}, FAll K F vs ss → ss.lookup f = none → vs.lookup f = none
  | _, _, .nil, e => rfl
  | (k, v) :: _, (k2, s2) :: _, .cons r t, e => by
    obtain ⟨h1, h2⟩ := r
    simp only at h1
    subst h1
    simp only [List.lookup] at e ⊢
    cases q : (f == k) with
    | true => rw [q] at e; cases e
    | false =>
      rw [q] at e
      exact fall_none t e
def putS (f : Str) (v : SV) : List (Str × SV) → List (Str × SV)
  | [] => [(f, v)]
  | (g, x) :: r => if g = f then (g, v) :: r else (g, x) :: putS f v r
theorem fall_put {K : PySem.W.Frag} {f : Str} {v : V} {s : SV} (r : SAt K F v s) : ∀ {vs : List (Str × V)} {ss : List (Str × SV)}, FAll K F vs ss → FAll K F (putF f v vs) (putS f s ss)
  | _, _, .nil => .cons ⟨rfl, r⟩ .nil
  | (k, x) :: _, (k2, s2) :: _, .cons q t => by
    obtain ⟨h1, h2⟩ := q
    simp only at h1
    subst h1
    unfold putF putS
    by_cases e : k = f
    · rw [if_pos e, if_pos e]
      exact .cons ⟨rfl, r⟩ t
    · rw [if_neg e, if_neg e]
      exact .cons ⟨rfl, h2⟩ (fall_put r t)
theorem ee_fld {o : Expr} {f : Str} {pos : Pos} {Q : SV → Cells → Prop} (h : EE R o Γ C fun so C1 => ∃ p Cl fs s, so = .c p ∧ C1 p = some (.ins Cl fs) ∧ Cls R.X.K Cl ∧ NoAttr R.X.K Cl f ∧ fs.lookup f = some s ∧ Q s C1) (hb : attributeBase o f R.X.env (eval o R.X.env) = eval o R.X.env := by rfl) : EE R (.Attribute o f pos) Γ C Q := fun σ F H at0 QV k => by
  refine wE_of (pe_fld pe_w hb) ?_
  refine h σ F H at0 _ fun v so F1 H1 C1 a1 r1 e1 h1 => ?_
  obtain ⟨p, Cl, fs, s, rfl, hp, cl, na, hl, q⟩ := h1
  obtain rfl : v = .ref p := r1
  obtain ⟨dx, vs, hv, rs⟩ := a1.g.cel p _ hp
  obtain ⟨u, hu, ru⟩ := fall_lookup rs hl
  exact ⟨p, Cl, dx, vs, u, rfl, hv, cl, na, hu, k u s F1 H1 C1 a1 ru e1 q⟩
theorem ev_fld {o : Expr} {f : Str} {pos : Pos} {p Cl : Addr} {fs : List (Str × SV)} {s : SV} (h : EV R o Γ C (.c p)) (hp : C p = some (.ins Cl fs)) (cl : Cls R.X.K Cl) (na : NoAttr R.X.K Cl f) (hl : fs.lookup f = some s) (hb : attributeBase o f R.X.env (eval o R.X.env) = eval o R.X.env := by rfl) : EV R (.Attribute o f pos) Γ C s := fun Q q => ee_fld (h _ ⟨p, Cl, fs, s, rfl, hp, cl, na, hl, q⟩) hb
theorem s_fld {o e : Expr} {f : Str} {pos pos' : Pos} {N : Nx} (h : EE R e Γ C fun s C1 => EE R o Γ C1 fun so C2 => ∃ p Cl fs, so = .c p ∧ C2 p = some (.ins Cl fs) ∧ Cls R.X.K Cl ∧ NoAttr R.X.K Cl f ∧ fs.length < 1000 ∧ N.nx Γ (cupd C2 p (.ins Cl (putS f s fs)))) (hs : swapsWith e (some (.Attribute o f pos')) pos.line R.X.env = pure false := by rfl) : S1 R (.Assign [.Attribute o f pos'] e pos) Γ C N := fun σ F H at0 D ok => by
  refine wS_of (ps_fld pe_w pe_w hs) ?_
  refine h σ F H at0 _ fun v s F1 H1 C1 a1 r1 e1 h1 => ?_
  refine h1 σ F1 H1 a1 _ fun u so F2 H2 C2 a2 r2 e2 h2 => ?_
  obtain ⟨p, Cl, fs, rfl, hp, cl, na, hl, q⟩ := h2
  obtain rfl : u = .ref p := r2
  obtain ⟨dx, vs, hv, rs⟩ := a2.g.cel p _ hp
  refine ⟨p, Cl, dx, vs, rfl, hv, cl, na, by rw [Paired.length rs]; exact hl, ?_⟩
  exact ok.nx σ Γ F2 _ _ (a2.put (c := .ins Cl (putS f s fs)) hp ⟨dx, putF f v vs, upd_same, fall_put (r1.ex e2) rs⟩) (e1.trans e2) q

/-! ### methods -/
def tMethS (Cl : Addr) (m : Str) (sp : Sp) (E : L2.St → XK) (ta : TE) (t : TA) : TE := fun σ H Q => ta σ H fun x H1 => ∃ a dx fs, x = .ref a ∧ H1 a = some (.ins Cl dx fs) ∧ fs.lookup m = none ∧ t σ H1 fun vs H2 => sp (x :: vs) H2 Q (E σ)
theorem pe_mS {X : Cx} {CX : CXT} {k : Nat} {Cl f : Addr} {fd : FuncData} {ps : List Str} {sp : Sp} {E : L2.St → XK} {o e : Expr} {es : List Expr} {m : Str} {apos pos : Pos} {ta : TE} {t : TA} {pl : Sem Bool} (he : PE X o ta) (c : Cls X.K Cl) (hm : Meth X.K Cl m f) (F : FnOk X.prog X.w X.K X.mg X.base CX k f fd ps sp) (hr : Room k X.A) (hb : Binds X.K fd ps []) (hx : ∀ σ, PassesAt CX X σ (E σ)) (ha : PA X (e :: es) t)
    (hst : starEach (e :: es) X.env = (false, eval e X.env) :: starEach es X.env := by rfl) (hpl : (backTo pos (starEach es X.env)).any (·.1) = false := by rfl)
    (ht : eval (.Call (.Attribute o m apos) (e :: es) [] pos) X.env = (do
      let ov ← eval o X.env
      standAt apos.atName
      let (f, first) ← holding [ov] (getMethod ov m pl)
      callWith pos f first (backTo pos (starEach (e :: es) X.env)) (backToKw pos (keywordEach [] X.env))) := by rfl) :
    PE X (.Call (.Attribute o m apos) (e :: es) [] pos) (tMethS Cl m sp E ta t) := by
  refine ⟨fun pins s σ H Q I h => ?_⟩
  refine PySem.W.methodCall_KW (pl := pl) (thn (he.run pins s σ H _ I h) fun u s1 ⟨x, H1, I1, rx, a, dx, fs, ex, ea, l, q⟩ => ?_) ht
  subst ex
  obtain rfl : u = Value.ref a := rx
  refine getmeth_ok I1 ea c hm l ?_
  refine PySem.W.callWith_K (first := [.ref a]) (h₀ := X.base) I.ok.mod.kin hm.kp (thn (ha.run pos pins s1 σ H1 _ I1 q) fun us s2 ⟨vs, H2, I2, r, q2⟩ => ⟨I2.kIn, ?_⟩) hst hpl
  exact run_fnS (us := .ref a :: us) (vs := .ref a :: vs) F hr hb (hx σ) I2 (.cons rfl r) q2
theorem pe_mS0 {X : Cx} {CX : CXT} {k : Nat} {Cl f : Addr} {fd : FuncData} {ps : List Str} {sp : Sp} {E : L2.St → XK} {o : Expr} {m : Str} {apos pos : Pos} {ta : TE} {pl : Sem Bool} (he : PE X o ta) (c : Cls X.K Cl) (hm : Meth X.K Cl m f) (F : FnOk X.prog X.w X.K X.mg X.base CX k f fd ps sp) (hr : Room k X.A) (hb : Binds X.K fd ps []) (hx : ∀ σ, PassesAt CX X σ (E σ))
    (ht : eval (.Call (.Attribute o m apos) [] [] pos) X.env = (do
      let ov ← eval o X.env
      standAt apos.atName
      let (f, first) ← holding [ov] (getMethod ov m pl)
      callWith pos f first (backTo pos (starEach [] X.env)) (backToKw pos (keywordEach [] X.env))) := by rfl) :
    PE X (.Call (.Attribute o m apos) [] [] pos) (tMethS Cl m sp E ta tNil) := by
  refine ⟨fun pins s σ H Q I h => ?_⟩
  refine PySem.W.methodCall_KW (pl := pl) (thn (he.run pins s σ H _ I h) fun u s1 ⟨x, H1, I1, rx, a, dx, fs, ex, ea, l, q⟩ => ?_) ht
  subst ex
  obtain rfl : u = Value.ref a := rx
  refine getmeth_ok I1 ea c hm l ?_
  exact PySem.W.callWith_K0 (first := [.ref a]) I1.kIn hm.kp (run_fnS (us := [.ref a]) (vs := [.ref a]) F hr hb (hx σ) I1 (.cons rfl .nil) q)
/-- a method of the class at Cl -/
def Mc (P : Program) (w : World) (K : PySem.W.Frag) (mg : Str → Option Value) (base : Heap) (Cl : Addr) (m : Str) (k : Nat) (ps : List Str) (sp : DSp) : Prop :=
  ∃ f fd, Cls K Cl ∧ Meth K Cl m f ∧ Binds K fd ps [] ∧ FnOk P w K mg base (L2.CX P w) k f fd ps (toSp K sp)
/-- a method of the text -/
def HasM (K : PySem.W.Frag) (Cl : Addr) (m qual : Str) (st : Stmt) : Prop := ∃ f fd, Cls K Cl ∧ Meth K Cl m f ∧ FunD K m qual (defArgs st) (defBody st) (defScope st) [] [] f fd
theorem mc_of {P : Program} {w : World} {K : PySem.W.Frag} {mg : Str → Option Value} {base : Heap} {Cl : Addr} {m qual : Str} {st : Stmt} {N ps : List Str} {k : Nat} {sp : DSp} (h : HasM K Cl m qual st) (S : FnScope N ps (defScope st))
    (hbd : ∀ (kV doc pm : Value) (an : Option Addr) (cdv ct : Value) (us : List Value), us.length = ps.length → bindArgs (PySem.W.fnOf m qual (defArgs st) (defBody st) (defScope st) .none kV doc pm an cdv ct) ⟨us, []⟩ = pure (ps.zip us))
    (len : ∀ ss C Q E, sp ss C Q E → ss.length = ps.length)
    (hb : ∀ (b : Bd) (ss : List SV) (Q : SV → Cells → Prop), Tk (Rb P w K mg base N qual (defScope st) b) → Room k (Rb P w K mg base N qual (defScope st) b).X.A → sp ss b.C Q b.er → SS (Rb P w K mg base N qual (defScope st) b) (defBody st) (startG N ss) b.C { nx := fun _ C' => Q .non C', rt := Q }) :
    Mc P w K mg base Cl m (k + 1) ps sp := by
  obtain ⟨f, fd, cl, hm, Fd⟩ := h
  exact ⟨f, fd, cl, hm, Fd.bindsN hbd, fn_ok Fd S len hb⟩
theorem Mc.mono {P : Program} {w : World} {K : PySem.W.Frag} {mg : Str → Option Value} {base : Heap} {Cl : Addr} {m : Str} {j k : Nat} {ps : List Str} {sp : DSp} (h : Mc P w K mg base Cl m j ps sp) (l : j ≤ k) : Mc P w K mg base Cl m k ps sp :=
  let ⟨f, fd, a, b, c, d⟩ := h
  ⟨f, fd, a, b, c, d.mono l⟩
theorem ee_meth {Cl : Addr} {m : Str} {k : Nat} {ps : List Str} {sp : DSp} {o e : Expr} {es : List Expr} {apos pos : Pos} {Q : SV → Cells → Prop} {pl : Sem Bool} (G : Mc R.X.prog R.X.w R.X.K R.X.mg R.X.base Cl m k ps sp) (hr : Room k R.X.A) (tk : Tk R)
    (h : EE R o Γ C fun so C1 => ∃ p fs, so = .c p ∧ C1 p = some (.ins Cl fs) ∧ fs.lookup m = none ∧ EA R (e :: es) Γ C1 fun ss C2 => sp (so :: ss) C2 Q (R.er Γ))
    (hst : starEach (e :: es) R.X.env = (false, eval e R.X.env) :: starEach es R.X.env := by rfl) (hpl : (backTo pos (starEach es R.X.env)).any (·.1) = false := by rfl)
    (ht : eval (.Call (.Attribute o m apos) (e :: es) [] pos) R.X.env = (do
      let ov ← eval o R.X.env
      standAt apos.atName
      let (f, first) ← holding [ov] (getMethod ov m pl)
      callWith pos f first (backTo pos (starEach (e :: es) R.X.env)) (backToKw pos (keywordEach [] R.X.env))) := by rfl) :
    EE R (.Call (.Attribute o m apos) (e :: es) [] pos) Γ C Q := fun σ F H a QV kk => by
  obtain ⟨f, fd, cl, hm, hb, G⟩ := G
  obtain ⟨W, tk, hW⟩ := tk
  refine wE_of (pe_mS (E := WE W) pe_w cl hm G hr hb (passAt tk) pa_w hst hpl ht) ?_
  refine h σ F H a _ fun v so F1 H1 C1 a1 r1 e1 h1 => ?_
  obtain ⟨p, fs, rfl, hp, hl, h1⟩ := h1
  obtain rfl : v = .ref p := r1
  obtain ⟨dx, vs, hv, rs⟩ := a1.g.cel p _ hp
  refine ⟨p, dx, vs, rfl, hv, fall_none rs hl, ?_⟩
  refine h1 σ F1 H1 a1 _ fun us ss F2 H2 C2 a2 r2 e2 h2 => ?_
  exact sp_go a2 rfl hW (.cons (show SAt R.X.K F2 (.ref p) (.c p) from rfl) r2) (fun v s F' H' C' a' r e q => kk v s F' H' C' a' r ((e1.trans e2).trans e) q) h2
theorem ee_meth0 {Cl : Addr} {m : Str} {k : Nat} {ps : List Str} {sp : DSp} {o : Expr} {apos pos : Pos} {Q : SV → Cells → Prop} {pl : Sem Bool} (G : Mc R.X.prog R.X.w R.X.K R.X.mg R.X.base Cl m k ps sp) (hr : Room k R.X.A) (tk : Tk R)
    (h : EE R o Γ C fun so C1 => ∃ p fs, so = .c p ∧ C1 p = some (.ins Cl fs) ∧ fs.lookup m = none ∧ sp [so] C1 Q (R.er Γ))
    (ht : eval (.Call (.Attribute o m apos) [] [] pos) R.X.env = (do
      let ov ← eval o R.X.env
      standAt apos.atName
      let (f, first) ← holding [ov] (getMethod ov m pl)
      callWith pos f first (backTo pos (starEach [] R.X.env)) (backToKw pos (keywordEach [] R.X.env))) := by rfl) :
    EE R (.Call (.Attribute o m apos) [] [] pos) Γ C Q := fun σ F H a QV kk => by
  obtain ⟨f, fd, cl, hm, hb, G⟩ := G
  obtain ⟨W, tk, hW⟩ := tk
  refine wE_of (pe_mS0 (E := WE W) pe_w cl hm G hr hb (passAt tk) ht) ?_
  refine h σ F H a _ fun v so F1 H1 C1 a1 r1 e1 h1 => ?_
  obtain ⟨p, fs, rfl, hp, hl, h1⟩ := h1
  obtain rfl : v = .ref p := r1
  obtain ⟨dx, vs, hv, rs⟩ := a1.g.cel p _ hp
  refine ⟨p, dx, vs, rfl, hv, fall_none rs hl, ?_⟩
  exact sp_go a1 rfl hW (.cons (show SAt R.X.K F1 (.ref p) (.c p) from rfl) .nil) (fun v s F' H' C' a' r e q => kk v s F' H' C' a' r (e1.trans e) q) h1
/-- a class that is made -/
def Kc (P : Program) (w : World) (K : PySem.W.Frag) (mg : Str → Option Value) (base : Heap) (x : Str) (Cl : Addr) (k : Nat) (ps : List Str) (sp : DSp) : Prop :=
  ∃ f fd, mg x = some (.ref Cl) ∧ Mk K Cl f ∧ Binds K fd ps [] ∧ FnOk P w K mg base (L2.CX P w) k f fd ps (toSp K sp)
def HasK (K : PySem.W.Frag) (mg : Str → Option Value) (x : Str) (Cl : Addr) (qual : Str) (st : Stmt) : Prop := ∃ f fd, mg x = some (.ref Cl) ∧ Mk K Cl f ∧ FunD K "__init__" qual (defArgs st) (defBody st) (defScope st) [] [] f fd
theorem kc_of {P : Program} {w : World} {K : PySem.W.Frag} {mg : Str → Option Value} {base : Heap} {x : Str} {Cl : Addr} {qual : Str} {st : Stmt} {N ps : List Str} {k : Nat} {sp : DSp} (h : HasK K mg x Cl qual st) (S : FnScope N ps (defScope st))
    (hbd : ∀ (kV doc pm : Value) (an : Option Addr) (cdv ct : Value) (us : List Value), us.length = ps.length → bindArgs (PySem.W.fnOf "__init__" qual (defArgs st) (defBody st) (defScope st) .none kV doc pm an cdv ct) ⟨us, []⟩ = pure (ps.zip us))
    (len : ∀ ss C Q E, sp ss C Q E → ss.length = ps.length)
    (hb : ∀ (b : Bd) (ss : List SV) (Q : SV → Cells → Prop), Tk (Rb P w K mg base N qual (defScope st) b) → Room k (Rb P w K mg base N qual (defScope st) b).X.A → sp ss b.C Q b.er → SS (Rb P w K mg base N qual (defScope st) b) (defBody st) (startG N ss) b.C { nx := fun _ C' => Q .non C', rt := Q }) :
    Kc P w K mg base x Cl (k + 1) ps sp := by
  obtain ⟨f, fd, hm, M, Fd⟩ := h
  exact ⟨f, fd, hm, M, Fd.bindsN hbd, fn_ok Fd S len hb⟩
theorem Kc.mono {P : Program} {w : World} {K : PySem.W.Frag} {mg : Str → Option Value} {base : Heap} {x : Str} {Cl : Addr} {j k : Nat} {ps : List Str} {sp : DSp} (h : Kc P w K mg base x Cl j ps sp) (l : j ≤ k) : Kc P w K mg base x Cl k ps sp :=
  let ⟨f, fd, a, b, c, d⟩ := h
  ⟨f, fd, a, b, c, d.mono l⟩
theorem made_at (a : At R σ Γ F H C) {x dx Cl : Addr} (hx : H x = none) (hd : H dx = none) (hne : dx ≠ x) : At R σ Γ F (upd (upd H dx (.own x)) x (.ins Cl dx [])) (cupd C x (.ins Cl [])) ∧ C x = none := by
  have e1 : Ex H (upd H dx (.own x)) := fun b u e => by rw [upd_ne (ne_of_none e hd)]; exact e
  have a1 := a.more e1
  have hx1 : (upd H dx (.own x)) x = none := by rw [upd_ne (Ne.symm hne)]; exact hx
  exact ⟨a1.cell (c := .ins Cl []) hx1 ⟨dx, [], upd_same, .nil⟩, (a.g.sl hx).2⟩
theorem mk_go {K : PySem.W.Frag} {sp : DSp} {vs : List V} {ss : List SV} {Q : SV → Cells → Prop} {QV : VK} {Cl : Addr} (a : At R σ Γ F H C) (hk : R.X.K = K) (r : SAll R.X.K F vs ss) (k : ∀ v s F' H' C', At R σ Γ F' H' C' → SAt R.X.K F' v s → Ex F F' → Q s C' → QV v H')
    (h : ∀ x, C x = none → sp (.c x :: ss) (cupd C x (.ins Cl [])) (fun s C' => s = .non ∧ Q (.c x) C') fun _ _ => False) :
    ∀ x dx, H x = none → H dx = none → dx ≠ x → toSp K sp (.ref x :: (vs ++ [])) (upd (upd H dx (.own x)) x (.ins Cl dx [])) (fun v H2 => v = .non ∧ QV (.ref x) H2) E0 := fun x dx hx hd hne => by
  subst hk
  obtain ⟨a1, cx⟩ := made_at (Cl := Cl) a hx hd hne
  rw [List.append_nil]
  refine ⟨F, _, .c x :: ss, _, _, a1.g, .cons rfl r, h x cx, fun s C' v F' H' q st g rv => ?_, fun e C' F' H' cls dd q => q.elim⟩
  obtain ⟨rfl, q⟩ := q
  exact ⟨sat_non rv, k (.ref x) (.c x) F' H' C' (a1.step st g) rfl st.exF q⟩
theorem ee_make {x : Str} {Cl : Addr} {k : Nat} {ps : List Str} {sp : DSp} {e : Expr} {es : List Expr} {p pos : Pos} {Q : SV → Cells → Prop} (G : Kc R.X.prog R.X.w R.X.K R.X.mg R.X.base x Cl k ps sp) (hr : Room (k + 1) R.X.A)
    (h : EA R (e :: es) Γ C fun ss C1 => ∀ q, C1 q = none → sp (.c q :: ss) (cupd C1 q (.ins Cl [])) (fun s C' => s = .non ∧ Q (.c q) C') fun _ _ => False)
    (hg : Gl R.X x := by rfl) (hdb : (x == ("__debug__" : Str)) = false := by decide) (he : starEach (e :: es) R.X.env = (false, eval e R.X.env) :: starEach es R.X.env := by rfl) (hpl : (backTo pos (starEach es R.X.env)).any (·.1) = false := by rfl) :
    EE R (.Call (.Name x p) (e :: es) [] pos) Γ C Q := fun σ F H a QV kk => by
  obtain ⟨f, fd, hm, M, hb, G⟩ := G
  refine wE_of (pe_make M G hr hg hm hb .nil passL pa_w hdb he hpl) ?_
  refine h σ F H a _ fun vs ss F1 H1 C1 a1 r1 e1 h1 => ?_
  exact mk_go a1 rfl r1 (fun v s F' H' C' a' r e q => kk v s F' H' C' a' r (e1.trans e) q) h1
theorem ee_make0 {x : Str} {Cl : Addr} {k : Nat} {ps : List Str} {sp : DSp} {p pos : Pos} {Q : SV → Cells → Prop} (G : Kc R.X.prog R.X.w R.X.K R.X.mg R.X.base x Cl k ps sp) (hr : Room (k + 1) R.X.A)
    (h : ∀ q, C q = none → sp [.c q] (cupd C q (.ins Cl [])) (fun s C' => s = .non ∧ Q (.c q) C') fun _ _ => False) (hg : Gl R.X x := by rfl) (hdb : (x == ("__debug__" : Str)) = false := by decide) :
    EE R (.Call (.Name x p) [] [] pos) Γ C Q := fun σ F H a QV kk => by
  obtain ⟨f, fd, hm, M, hb, G⟩ := G
  refine wE_of (pe_make0 M G hr hg hm hb .nil passL hdb) ?_
  exact mk_go a rfl .nil kk h
end
end Dl

namespace Dl
open PySem PySem.Spec PyProof.Rows L2
section
variable {R : Rx} {Γ : Gm} {C C' : Cells} {σ : L2.St} {F H F' H' : Hp}

/-! ### try .. except -/
theorem At.unset (a : At R σ Γ F H C) (i : Nat) : At R (σ.set i none) (Γ.set i none) F H C := by
  refine ⟨a.st, a.g, fun j s' h => ?_, by rw [List.length_set, List.length_set]; exact a.ln⟩
  by_cases hj : i = j
  · subst hj
    by_cases hl : i < Γ.length
    · rw [List.getElem?_set_self hl] at h
      cases h
    · rw [List.getElem?_eq_none (by rw [List.length_set]; omega)] at h
      cases h
  · rw [List.getElem?_set_ne hj] at h
    rw [List.getElem?_set_ne hj]
    exact a.sl j s' h
/-- in a try's body; in an except suite -/
abbrev Rt (R : Rx) (pn : List (Addr × Obj)) (xe : Value → Shared → Prop) (F H : Hp) (C : Cells) (er : Gm → Er → Cells → Prop) : Rx := ⟨R.X.tr pn xe, F, H, C, er⟩
abbrev Ru (R : Rx) (a : Addr) (oe : Obj) (pn : List (Addr × Obj)) : Rx := ⟨R.X.suite a ((a, oe) :: pn), R.F0, R.H0, R.C0, fun _ _ _ => False⟩
theorem tk_false {R : Rx} (h : R.er = fun _ _ _ => False) : Tk R := ⟨fun _ _ _ _ => False, takes0, fun σ Γ F H C e cls dd _ q _ => by rw [h] at q; exact q⟩
theorem s_try_as (i : Nat) {x n : Str} {Cx : Addr} {body suite : List Stmt} {b0 : Stmt} {np pos pos' : Pos} {N : Nx} (hx : Names R.X x (.ref Cx)) (hs : R.X.stack = R.X.env :: R.X.outer) (hf : R.X.env.frame = some R.X.env.locals) (hN : R.X.N.Nodup) (tk : Tk R)
    (er : Gm → Er → Cells → Prop)
    (hb : ∀ (pn : List (Addr × Obj)) (xe : Value → Shared → Prop) (F H : Hp), Tk (Rt R pn xe F H C er) → PassesOwn (model R.X.prog R.X.w) R.X.A R.X.env xe → SS (Rt R pn xe F H C er) body Γ C N)
    (he : ∀ Γ' e C', er Γ' e C' → ∃ b, PySem.W.exmOne R.X.K (.ref e.cls) (.ref Cx) = some b ∧ (b = false → R.er Γ' e C') ∧ (b = true → e.fld = none ∧ ∀ (a : Addr) (oe : Obj) (pn : List (Addr × Obj)), Zc (.ref e.cls) none oe → (∃ vs, oe.data = .fields vs) →
      SS (Ru R a oe pn) (b0 :: suite) (Γ'.set i (some (.c a))) C' { nx := fun Γ2 C2 => N.nx (Γ2.set i none) C2, rt := N.rt, bk := fun Γ2 C2 => N.bk (Γ2.set i none) C2, ct := fun Γ2 C2 => N.ct (Γ2.set i none) C2 }))
    (hi : R.X.N[i]? = some n := by rfl) (hln : R.X.env.kindOf n = some .local := by rfl) :
    S1 R (.Try body [.ExceptHandler (some (.Name x np)) (some n) (b0 :: suite) pos'] [] [] pos) Γ C N := fun σ F H a D ok => by
  obtain ⟨Wo, tko, hWo⟩ := tk
  have bk : ∀ {pn xe σ' Γ' F' H' C'}, At (Rt R pn xe F H C er) σ' Γ' F' H' C' → At R σ' Γ' F' H' C' ∧ Ex F F' := fun {pn xe σ' Γ' F' H' C'} b => ⟨⟨a.st.trans b.st, b.g, b.sl, b.ln⟩, b.st.exF⟩
  refine wS_of (ps_try_as (tb := fun W D σ H => ∀ pn xe, Takes (R.X.tr pn xe) W → PassesOwn (model R.X.prog R.X.w) R.X.A R.X.env xe → wSs (R.X.tr pn xe) body D σ H)
    (ts := fun a cls d D σ H => ∀ oe pn, Zc cls d oe → (∃ vs, oe.data = .fields vs) → wSs (R.X.suite a ((a, oe) :: pn)) (b0 :: suite) D σ H) hs hf hN hi hln hx tko
    (fun W pn xe tkb po => ⟨fun pins s σ H D I h => h pn xe tkb po pins s I⟩) (fun a oe cls d pn hz hv => ⟨fun pins s σ H D I h => h oe pn hz hv pins s I⟩)) ?_
  intro pn xe tkb po
  refine hb pn xe F H ⟨_, tkb, fun σ' Γ' F' H' C' e cls dd a' q hea => ?_⟩ po σ F H ⟨Step.refl F H C, a.g, a.sl, a.ln⟩ D ⟨fun σ' Γ' F' H' C' a' e' q => ?_, fun σ' Γ' F' H' C' v s a' e' r q => ?_, fun σ' Γ' F' H' C' a' e' q => ?_, fun σ' Γ' F' H' C' a' e' q => ?_⟩
  · obtain ⟨a2, eF⟩ := bk a'
    obtain ⟨b, hm, hno, hyes⟩ := he Γ' e C' q
    have ea := hea
    obtain ⟨rfl, hfl⟩ := ea
    refine ⟨b, hm, fun hb1 ea hH oe pn2 hz hv => ?_, fun hb0 => hWo σ' Γ' F' H' C' e _ dd a2 (hno hb0) hea⟩
    obtain ⟨hfn, hsu⟩ := hyes hb1
    rw [hfn] at hfl
    have hd : dd = none := hfl
    subst hd
    have a3 : At (Ru R ea oe pn2) (σ'.set i (some (.ref ea))) (Γ'.set i (some (.c ea))) F' H' C' := by
      have a4 := a2.set (s := .c ea) (v := .ref ea) rfl i
      exact ⟨a4.st, a4.g, a4.sl, a4.ln⟩
    have back : ∀ {σ' Γ' F' H' C'}, At (Ru R ea oe pn2) σ' Γ' F' H' C' → At R (σ'.set i none) (Γ'.set i none) F' H' C' := fun b => At.unset (R := R) ⟨b.st, b.g, b.sl, b.ln⟩ i
    refine hsu ea oe pn2 hz hv _ F' H' a3 _ ⟨fun σ' Γ' F2 H' C' a' e' q => ok.nx _ _ F2 H' C' (back a') (eF.trans e') q, fun σ' Γ' F2 H' C' v s a' e' r q => ok.rt _ _ F2 H' C' v s (back a') (eF.trans e') r q, fun σ' Γ' F2 H' C' a' e' q => ok.bk _ _ F2 H' C' (back a') (eF.trans e') q, fun σ' Γ' F2 H' C' a' e' q => ok.ct _ _ F2 H' C' (back a') (eF.trans e') q⟩
  · obtain ⟨a2, eF⟩ := bk a'
    exact ok.nx σ' Γ' F' H' C' a2 eF q
  · obtain ⟨a2, eF⟩ := bk a'
    exact ok.rt σ' Γ' F' H' C' v s a2 eF r q
  · obtain ⟨a2, eF⟩ := bk a'
    exact ok.bk σ' Γ' F' H' C' a2 eF q
  · obtain ⟨a2, eF⟩ := bk a'
    exact ok.ct σ' Γ' F' H' C' a2 eF q
/-- isinstance(e, X), e the exception that the suite holds -/
theorem ev_isE {R0 : Rx} {a De : Addr} {oe : Obj} {pn : List (Addr × Obj)} {x : Str} {ex : Expr} {b : Bool} {p p2 pos : Pos} {c : V} {cv : Value} (hR : R = Ru R0 a oe pn) (Ce : ExcC R.X.K De) (hz : Zc (.ref De) none oe) (hf : ∃ vs, oe.data = .fields vs) (hm : R.X.mg "isinstance" = none) (ha : EV R ex Γ C (.c a))
    (hk : PySem.W.kitOne R.X.K (.ref De) cv = some b) (hc : ∀ u, RelV c u → u = cv) (pc : PE R.X (.Name x p2) (tC c))
    (hg : Gl R.X "isinstance" := by rfl) (hs : starEach [ex, .Name x p2] R.X.env = (false, eval ex R.X.env) :: starEach [.Name x p2] R.X.env := by rfl) (hs2 : starEach [.Name x p2] R.X.env = (false, eval (.Name x p2) R.X.env) :: starEach [] R.X.env := by rfl) (hpl : (backTo pos (starEach [.Name x p2] R.X.env)).any (·.1) = false := by rfl) :
    EV R (.Call (.Name "isinstance" p) [ex, .Name x p2] [] pos) Γ C (.bl b) := fun Q q σ F H at0 QV k => by
  subst hR
  refine wE_of (pe_callB (call_isE Ce hz hf) hg hm (by decide +kernel) (pa_cons pe_w (pa_cons pc pa_nil hs2) hs) (by decide) (by decide) hs hpl) ?_
  refine ha (fun s' C' => s' = .c a ∧ C' = C) ⟨rfl, rfl⟩ σ F H at0 _ fun v s' F1 H1 C1 a1 r1 e1 h1 => ?_
  obtain ⟨rfl, rfl⟩ := h1
  obtain rfl : v = .ref a := r1
  exact ⟨c, cv, b, rfl, hc, hk, k _ (.bl b) F1 H1 C1 a1 (Dp.bl _) e1 q⟩

/-! ### enumerate, zip -/
theorem ei_enum {elts : List Expr} {kk : Nat} {tpos p pos : Pos} {e : Expr} {Q : (Cells → Prop) → Nat → (Nat → PyData) → Cells → Prop} (hm : R.X.mg "enumerate" = none) (h : EE R e Γ C fun s C1 => ∃ ds, DV C1 s (.list ds) ∧ Q (fun C => DV C s (.list ds)) ds.length (fun i => .tuple [.int i, gd ds i]) C1)
    (hg : Gl R.X "enumerate" := by rfl) (hs : starEach [e] R.X.env = [(false, eval e R.X.env)] := by rfl) (hs0 : starEach [e] R.X.env = (false, eval e R.X.env) :: starEach [] R.X.env := by rfl) : EI R (.Tuple elts kk tpos) (.Call (.Name "enumerate" p) [e] [] pos) Γ C Q := fun σ F H a QV k => by
  refine wI_of (pi_enum hg hm (pa_cons pe_w pa_nil hs0) hs) ?_
  refine h σ F H a _ fun v s F1 H1 C1 a1 r1 e1 h1 => ?_
  obtain ⟨ds, hd, q⟩ := h1
  have hD := dv_dp a1 r1 hd
  have : ∃ b xs, v = .ref b ∧ SqL R.X.K H1 b xs := by cases hD with | lst sq r => exact ⟨_, _, rfl, sq⟩
  obtain ⟨b, xs, rfl, sq⟩ := this
  refine ⟨b, xs, rfl, sq, k (Ite R.X.K b) F1 H1 C1 _ _ _ a1 e1 ?_ q⟩
  intro R2 σ2 Γ2 F2 H2 C2 hk a2 e2 hp2
  rw [← hk] at r1
  have hD2 := dv_dp a2 (r1.ex e2) hp2
  have : ∃ ys, SqL R2.X.K H2 b ys ∧ DpAll R2.X.K H2 ys ds := by cases hD2 with | lst sq r => exact ⟨_, sq, r⟩
  obtain ⟨ys, sq2, rd⟩ := this
  have ln := dpAll_len rd
  rw [← hk]
  refine ⟨fun i hi => ⟨ys, ys[i]'(by omega), sq2, List.getElem?_eq_getElem _⟩, fun i hi => ⟨ys, sq2, by omega⟩, fun i x H' hi y => ?_⟩
  obtain ⟨T, x', rfl, nT, rfl, y⟩ := y
  obtain ⟨a3, e3⟩ := a2.lay (o := .tup [.int (i : Nat), x']) nT
  refine ⟨_, a3, e3, ?_⟩
  have h3 := y ys sq2
  have hx : Dp R2.X.K (upd F2 T (.tup [.int (i : Nat), x'])) x' (gd ds i) := by
    rcases hp2 with hs' | ⟨c, ds', hs', hc, hl⟩
    · rw [hs'] at r1
      obtain ⟨b', zs, eb, sqF, rdF⟩ := sat_lst (r1.ex e2)
      cases eb
      have hz := y zs (a2.g.sub.sqL sqF)
      obtain ⟨d, hd1, hd2⟩ := dpAll_get' rdF hz
      unfold gd
      rw [hd1]
      exact dp_ex e3 hd2
    · rw [hs'] at r1
      cases hl
      have eb : V.ref b = .ref c := r1
      cases eb
      obtain ⟨vs, hv, rs⟩ := a2.g.cel b _ hc
      have hz := y vs (.inl (.inl hv))
      obtain ⟨d, hd1, hd2⟩ := dpAll_get' (sall_dp rs) hz
      unfold gd
      rw [hd1]
      exact dp_ex e3 hd2
  exact .tup (.inl (.inl upd_same)) (.cons (.int _) (.cons hx .nil))

/-! ### comprehensions -/
theorem At.poke (a : At R σ Γ F H C) {D : Addr} {o : HO} (hF : F D = none) (hC : C D = none) (hd : ∀ u, R.H0 D = some u → R.C0 D = none → False) : At R σ Γ F (upd H D o) C := by
  refine ⟨⟨a.st.exF, fun p u h c => ?_, a.st.newF, a.st.newC⟩, ⟨fun b u e => ?_, a.g.dis, fun b c e => ?_⟩, a.sl, a.ln⟩
  · have hp : p ≠ D := fun z => by subst z; exact hd u h c
    rw [upd_ne hp]; exact a.st.keep p u h c
  · have hp : b ≠ D := fun z => by subst z; rw [hF] at e; cases e
    rw [upd_ne hp]; exact a.g.sub b u e
  · have hp : b ≠ D := fun z => by subst z; rw [hC] at e; cases e
    exact (a.g.cel b c e).ex (Ex.refl F) (upd_ne hp)
theorem At.take (a : At R σ Γ F H C) {D : Addr} {o : HO} (hH : H D = some o) (hF : F D = none) (hC : C D = none) (hd : ∀ u, R.H0 D = some u → R.C0 D = none → False) : At R σ Γ (upd F D o) H C ∧ Ex F (upd F D o) := by
  have eF : Ex F (upd F D o) := fun b u e => by rw [upd_ne (ne_of_none e hF)]; exact e
  refine ⟨⟨⟨a.st.exF.trans eF, a.st.keep, fun p h => ?_, a.st.newC⟩, ⟨fun b u e => ?_, fun b c e => ?_, fun b c e => (a.g.cel b c e).ex eF rfl⟩, a.sl.ex eF, a.ln⟩, eF⟩
  · by_cases hp : p = D
    · subst hp
      cases e : R.H0 p with
      | none => exact .inr (.inl rfl)
      | some u => exact .inr (.inr fun z => hd u e z)
    · rw [upd_ne hp] at h; exact a.st.newF p h
  · by_cases hp : b = D
    · subst hp; rw [upd_same] at e; cases e; exact hH
    · rw [upd_ne hp] at e; exact a.g.sub b u e
  · have hp : b ≠ D := fun z => by subst z; rw [hC] at e; cases e
    rw [upd_ne hp]; exact a.g.dis b c e
/-- in a comprehension's block -/
abbrev Rk (R : Rx) (s : Shared) (Hb : Hp) (scope : Scope) (cl : List (Str × Addr)) (Cb : Addr) (fp : List Addr) (F H : Hp) (C : Cells) : Rx := ⟨R.X.blk s Hb scope (compEnvC scope cl Cb R.X.env) fp, F, H, C, fun _ _ _ => False⟩
def picks (n : Nat) (f : Nat → Bool) (z : Nat → PyData) : List PyData := ((List.range n).filter f).map z
theorem picks_yes {n : Nat} {f : Nat → Bool} {z : Nat → PyData} (h : f n = true) : picks (n + 1) f z = picks n f z ++ [z n] := by
  unfold picks
  rw [List.range_succ, List.filter_append, List.map_append, List.filter_cons, if_pos h]
  rfl
theorem picks_no {n : Nat} {f : Nat → Bool} {z : Nat → PyData} (h : f n = false) : picks (n + 1) f z = picks n f z := by
  unfold picks
  rw [List.range_succ, List.filter_append, List.map_append, List.filter_cons, if_neg (by rw [h]; decide)]
  exact List.append_nil _
theorem picks_len (n : Nat) (f : Nat → Bool) (z : Nat → PyData) : (picks n f z).length ≤ n := by
  unfold picks
  rw [List.length_map]
  have h := List.length_filter_le f (List.range n)
  rw [List.length_range] at h
  exact h
theorem picks_all (n : Nat) (z : Nat → PyData) : picks n (fun _ => true) z = (List.range n).map z := by
  unfold picks
  rw [List.filter_eq_self.mpr fun _ _ => rfl]
theorem step_hold {D : Addr} {o : HO} (st : Step F H C F' H' C) (hF : F D = none) (hH : H D = some o) (hC : C D = none) : F' D = none ∧ H' D = some o := by
  refine ⟨?_, st.keep D o hH hC⟩
  cases e : F' D with
  | none => rfl
  | some u =>
    rcases st.newF D (by rw [e]; simp) with z | z | z
    · exact absurd hF z
    · rw [hH] at z; cases z
    · exact absurd hC z
/-- the turns of a comprehension over one name; D the list so far -/
theorem lc_turns (j : Nat) {x : Str} {QV : VK} {F1 H1 : Hp} {J : It} {P : Cells → Prop} {n : Nat} {y : Nat → PyData} {tt : TT} {te : TE} (a1 : At R σ Γ F1 H1 C) (yl : Yl R.X.K F1 J P n y) (hP : P C) (hn : n < sizeLine) (f : Nat → Bool) (z : Nat → PyData)
    (ht : ∀ i, i < n → ∀ F H σ' (QT : Bool → Hp → Prop), Ex F1 F → G0 R.X.K F H C → SlAt R.X.K F σ' ((Γ.set j none).set j (some (.d (y i)))) → σ'.length = Γ.length → (∀ F' H', Step F H C F' H' C → G0 R.X.K F' H' C → QT (f i) H') → tt σ' H QT)
    (he : ∀ i, i < n → f i = true → ∀ F H σ' (QE : VK), Ex F1 F → G0 R.X.K F H C → SlAt R.X.K F σ' ((Γ.set j none).set j (some (.d (y i)))) → σ'.length = Γ.length → (∀ v F' H', Step F H C F' H' C → G0 R.X.K F' H' C → Dp R.X.K F' v (z i) → QE v H') → te σ' H QE)
    (k : ∀ D F' H' acc, At R σ Γ F' H' C → Ex F1 F' → F' D = none → C D = none → (∀ u, R.H0 D = some u → R.C0 D = none → False) → H' D = some (.lst acc) → DpAll R.X.K F' acc (picks n f z) → QV (.ref D) H') :
    ∀ D, H1 D = none → ∃ W : Nat → Nat → Hp → Prop, (∃ m, W 0 m (upd H1 D (.lst []))) ∧ ∀ i m H, W i m H →
      (J.stop i H ∧ QV (.ref D) H) ∨ (J.go i H ∧ ∃ Nx : Hp → Prop, (∀ H', Nx H' → ∃ m', m' < m ∧ W (i + 1) m' H') ∧ ∀ x H', J.yld i H x H' → gName j x (wipe σ [j]) H' fun σ2 H2 => wipe σ2 [j] = wipe σ [j] ∧ tt σ2 H2 fun b H3 =>
        if b = true then te σ2 H3 fun y H4 => ∃ acc, H4 D = some (.lst acc) ∧ acc.length < sizeLine ∧ Nx (upd H4 D (.lst (acc ++ [y]))) else Nx H3) := fun D hD => by
  have hCD : C D = none := (a1.g.sl hD).2
  have hFD : F1 D = none := (a1.g.sl hD).1
  have hd : ∀ u, R.H0 D = some u → R.C0 D = none → False := fun u h c => by
    have := a1.st.keep D u h c
    rw [hD] at this; cases this
  have a1' := a1.more (H' := upd H1 D (.lst [])) fun b u e => by rw [upd_ne (ne_of_none e hD)]; exact e
  refine ⟨fun i m H => m = n - i ∧ i ≤ n ∧ ∃ F' acc, At R σ Γ F' H C ∧ Ex F1 F' ∧ F' D = none ∧ H D = some (.lst acc) ∧ DpAll R.X.K F' acc (picks i f z), ⟨n, by simp, Nat.zero_le _, F1, [], a1', Ex.refl F1, hFD, upd_same, .nil⟩, ?_⟩
  rintro i m H ⟨rfl, hi, F', acc, a, e1, hF, hH, rd⟩
  obtain ⟨go, stop, yld⟩ := yl ⟨R.X, F', H, C, fun _ _ _ => False⟩ σ Γ F' H C rfl ⟨Step.refl _ _ _, a.g, a.sl, a.ln⟩ e1 hP
  by_cases hlt : i < n
  · refine .inr ⟨go i hlt, fun H' => ∃ F' acc, At R σ Γ F' H' C ∧ Ex F1 F' ∧ F' D = none ∧ H' D = some (.lst acc) ∧ DpAll R.X.K F' acc (picks (i + 1) f z), fun H' q => ⟨n - (i + 1), by omega, rfl, hlt, q⟩, fun x H2 hy => ?_⟩
    obtain ⟨F2, a2, e2, dx⟩ := yld i x H2 hlt hy
    obtain ⟨hF2, hH2⟩ := step_hold a2.st hF hH hCD
    refine ⟨?_, ?_⟩
    · show ((σ.set j none).set j (some x)).set j none = σ.set j none
      rw [List.set_set, List.set_set]
    · have a3 := (a2.unset j).set (s := .d (y i)) dx j
      refine ht i hlt F2 H2 _ _ (e1.trans e2) a2.g a3.sl (by rw [← a.ln]; show ((σ.set j none).set j (some x)).length = _; rw [List.length_set, List.length_set]) fun F3 H3 s3 g3 => ?_
      obtain ⟨hF3, hH3⟩ := step_hold s3 hF2 hH2 hCD
      have s13 := a2.st.trans s3
      cases hf : f i with
      | true =>
        rw [if_pos rfl]
        refine he i hlt hf F3 H3 _ _ ((e1.trans e2).trans s3.exF) g3 (a3.sl.ex s3.exF) (by rw [← a.ln]; show ((σ.set j none).set j (some x)).length = _; rw [List.length_set, List.length_set]) fun v F4 H4 s4 g4 dv => ?_
        obtain ⟨hF4, hH4⟩ := step_hold s4 hF3 hH3 hCD
        have s14 := s13.trans s4
        refine ⟨acc, hH4, by rw [dpAll_len rd]; exact Nat.lt_of_le_of_lt (picks_len i f z) (by omega), F4, acc ++ [v], ?_, e1.trans s14.exF, hF4, upd_same, ?_⟩
        · exact At.poke ⟨a.st.trans s14, g4, a.sl.ex s14.exF, a.ln⟩ hF4 hCD hd
        · rw [picks_yes hf]
          exact dpAll_append (dpAll_ex s14.exF rd) (.cons dv .nil)
      | false =>
        rw [if_neg (by decide)]
        refine ⟨F3, acc, ⟨a.st.trans s13, g3, a.sl.ex s13.exF, a.ln⟩, e1.trans s13.exF, hF3, hH3, ?_⟩
        rw [picks_no hf]
        exact dpAll_ex s13.exF rd
  · have hin : i = n := by omega
    subst hin
    exact .inl ⟨stop _ (Nat.le_refl _), k D F' H acc a e1 hF hCD hd hH rd⟩
section
variable {iter elt c : Expr} {x : Str} {px pos : Pos} {scope : Scope}
/-- what is asked of the element and of the test, in the block -/
def LE (R : Rx) (scope : Scope) (elt : Expr) (Γ : Gm) (C : Cells) (d : PyData) : Prop := ∀ s Hb Cb cl fp F H, EE (Rk R s Hb scope cl Cb fp F H C) elt Γ C fun v C' => v = .d d ∧ C' = C
def LT (R : Rx) (scope : Scope) (c : Expr) (Γ : Gm) (C : Cells) (b : Bool) : Prop := ∀ s Hb Cb cl fp F H, ET (Rk R s Hb scope cl Cb fp F H C) c Γ C fun v C' => v = b ∧ C' = C
theorem le_run {d : PyData} {σ' : L2.St} (h : LE R scope elt Γ C d) (g : G0 R.X.K F H C) (sl : SlAt R.X.K F σ' Γ) (ln : σ'.length = Γ.length) {QE : VK} (k : ∀ v F' H', Step F H C F' H' C → G0 R.X.K F' H' C → Dp R.X.K F' v d → QE v H') : ∀ s Hb Cb cl fp, wE (R.X.blk s Hb scope (compEnvC scope cl Cb R.X.env) fp) elt σ' H QE := fun s Hb Cb cl fp => by
  refine h s Hb Cb cl fp F H σ' F H ⟨Step.refl _ _ _, g, sl, ln⟩ QE fun v s' F' H' C' a' r e q => ?_
  obtain ⟨rfl, rfl⟩ := q
  exact k v F' H' a'.st a'.g r
theorem lt_run {b : Bool} {σ' : L2.St} (h : LT R scope c Γ C b) (g : G0 R.X.K F H C) (sl : SlAt R.X.K F σ' Γ) (ln : σ'.length = Γ.length) {QT : Bool → Hp → Prop} (k : ∀ F' H', Step F H C F' H' C → G0 R.X.K F' H' C → QT b H') : ∀ s Hb Cb cl fp, wT (R.X.blk s Hb scope (compEnvC scope cl Cb R.X.env) fp) c σ' H QT := fun s Hb Cb cl fp => by
  refine h s Hb Cb cl fp F H σ' F H ⟨Step.refl _ _ _, g, sl, ln⟩ QT fun v F' H' C' a' e q => ?_
  obtain ⟨rfl, rfl⟩ := q
  exact k F' H' a'.st a'.g
theorem set2_len (j : Nat) (s : SV) (Γ : Gm) : ((Γ.set j none).set j (some s)).length = Γ.length := by rw [List.length_set, List.length_set]
/-- [elt for x in iter], [elt for x in iter if c] -/
theorem ee_lc (j : Nat) {Q : SV → Cells → Prop} (hc : R.X.calm = true) (hN : R.X.N.Nodup)
    (h : EI R (.Name x px) iter Γ C fun P n y C1 => P C1 ∧ n < sizeLine ∧ ∃ z : Nat → PyData, (∀ i, i < n → LE R scope elt ((Γ.set j none).set j (some (.d (y i)))) C1 (z i)) ∧ Q (.d (.list ((List.range n).map z))) C1)
    (hj : R.X.N[j]? = some x := by rfl) (ok : BlkOk R.X.N R.X.env.scope scope [(x, j)] := by exact blkOk_by (by decide +kernel)) (hx : Loc scope x := by first | exact Or.inl rfl | exact Or.inr rfl)
    (hs : ∀ x, foldedSetIterable iter R.X.env x = pure x := by intro _; rfl) (hsc : ∀ cl Cb, (compEnvC scope cl Cb R.X.env).scope = scope := by intros; rfl) : EE R (.ListComp elt [⟨.Name x px, iter, [], 0⟩] scope pos) Γ C Q := fun σ F H a QV kk => by
  have hx' : ∀ cl Cb, Loc (compEnvC scope cl Cb R.X.env).scope x := fun cl Cb => by rw [hsc]; exact hx
  have hfn : ((scope.names.lookup x == some .cell) = true) ∨ scope.names.lookup x = some .local := by
    rcases hx with h | h
    · exact .inr h
    · exact .inl (by rw [h]; rfl)
  refine wE_of (pe_lc (own := [(x, j)]) (tt := tYes) (te := fun σ H Q => ∀ s Hb Cb cl fp, wE (R.X.blk s Hb scope (compEnvC scope cl Cb R.X.env) fp) elt σ H Q) hc hN pi_w ok
    (fun s Hb Cb cl fp => pg_name (i := j) hN hj (hx' cl Cb) (by rcases hfn with h | h; exact .inl h; exact .inr (by show (compEnvC scope cl Cb R.X.env).scope.names.lookup x = _; rw [hsc]; exact h))) (fun _ _ _ _ _ => pts_nil) (fun s Hb Cb cl fp => ⟨fun pins s' σ H Q I h => h s Hb Cb cl fp pins s' I⟩) hs) ?_
  refine h σ F H a _ fun J F1 H1 C1 P n y a1 e1 yl h1 => ?_
  obtain ⟨hP, hn, z, hz, q⟩ := h1
  refine lc_turns j (x := x) a1 yl hP hn (fun _ => true) z (fun i hi F H σ' QT e g sl ln k => k F H (Step.refl _ _ _) g) (fun i hi _ F H σ' QE e g sl ln k => le_run (hz i hi) g sl (by rw [set2_len]; exact ln) k) fun D F' H' acc a' e' hF hC hd hH rd => ?_
  obtain ⟨a2, e2⟩ := a'.take hH hF hC hd
  refine kk (.ref D) (.d (.list ((List.range n).map z))) _ H' C1 a2 (.lst (.inl (.inl upd_same)) (dpAll_ex e2 (by rw [← picks_all]; exact rd))) ((e1.trans e').trans e2) q
theorem ee_lcif (j : Nat) {Q : SV → Cells → Prop} (hc : R.X.calm = true) (hN : R.X.N.Nodup)
    (h : EI R (.Name x px) iter Γ C fun P n y C1 => P C1 ∧ n < sizeLine ∧ ∃ (f : Nat → Bool) (z : Nat → PyData), (∀ i, i < n → LT R scope c ((Γ.set j none).set j (some (.d (y i)))) C1 (f i)) ∧ (∀ i, i < n → f i = true → LE R scope elt ((Γ.set j none).set j (some (.d (y i)))) C1 (z i)) ∧ Q (.d (.list (picks n f z))) C1)
    (hj : R.X.N[j]? = some x := by rfl) (ok : BlkOk R.X.N R.X.env.scope scope [(x, j)] := by exact blkOk_by (by decide +kernel)) (hx : Loc scope x := by first | exact Or.inl rfl | exact Or.inr rfl)
    (hs : ∀ x, foldedSetIterable iter R.X.env x = pure x := by intro _; rfl) (hsc : ∀ cl Cb, (compEnvC scope cl Cb R.X.env).scope = scope := by intros; rfl) : EE R (.ListComp elt [⟨.Name x px, iter, [c], 0⟩] scope pos) Γ C Q := fun σ F H a QV kk => by
  have hx' : ∀ cl Cb, Loc (compEnvC scope cl Cb R.X.env).scope x := fun cl Cb => by rw [hsc]; exact hx
  have hfn : ((scope.names.lookup x == some .cell) = true) ∨ scope.names.lookup x = some .local := by
    rcases hx with h | h
    · exact .inr h
    · exact .inl (by rw [h]; rfl)
  refine wE_of (pe_lc (own := [(x, j)]) (tt := fun σ H Q => ∀ s Hb Cb cl fp, wT (R.X.blk s Hb scope (compEnvC scope cl Cb R.X.env) fp) c σ H Q) (te := fun σ H Q => ∀ s Hb Cb cl fp, wE (R.X.blk s Hb scope (compEnvC scope cl Cb R.X.env) fp) elt σ H Q) hc hN pi_w ok
    (fun s Hb Cb cl fp => pg_name (i := j) hN hj (hx' cl Cb) (by rcases hfn with h | h; exact .inl h; exact .inr (by show (compEnvC scope cl Cb R.X.env).scope.names.lookup x = _; rw [hsc]; exact h))) (fun s Hb Cb cl fp => pts_one ⟨fun pins s' σ H Q I h => h s Hb Cb cl fp pins s' I⟩) (fun s Hb Cb cl fp => ⟨fun pins s' σ H Q I h => h s Hb Cb cl fp pins s' I⟩) hs) ?_
  refine h σ F H a _ fun J F1 H1 C1 P n y a1 e1 yl h1 => ?_
  obtain ⟨hP, hn, f, z, hf, hz, q⟩ := h1
  refine lc_turns j (x := x) a1 yl hP hn f z (fun i hi F H σ' QT e g sl ln k => lt_run (hf i hi) g sl (by rw [set2_len]; exact ln) k) (fun i hi hfi F H σ' QE e g sl ln k => le_run (hz i hi hfi) g sl (by rw [set2_len]; exact ln) k) fun D F' H' acc a' e' hF hC hd hH rd => ?_
  obtain ⟨a2, e2⟩ := a'.take hH hF hC hd
  refine kk (.ref D) (.d (.list (picks n f z))) _ H' C1 a2 (.lst (.inl (.inl upd_same)) (dpAll_ex e2 rd)) ((e1.trans e').trans e2) q
end

/-! ### slices, texts -/
def cutL {α : Type} (xs : List α) (lo hi : Option Int) : List α := (xs.drop (HT.sIx xs.length 0 lo)).take (HT.sIx xs.length xs.length hi - HT.sIx xs.length 0 lo)
def tO (X : Cx) : Option Expr → TO
  | none => tNoPart
  | some e => tPart (wE X e)
theorem po_w {X : Cx} : ∀ {o : Option Expr}, PO X o (tO X o)
  | none => po_none
  | some _ => po_some pe_w
/-- a slice's part -/
def PV (R : Rx) (o : Option Expr) (Γ : Gm) (C : Cells) (oi : Option Int) : Prop := match o with
  | none => oi = none
  | some e => ∃ k, oi = some k ∧ EV R e Γ C (.int k)
theorem pv_none : PV R none Γ C none := rfl
theorem pv_some {e : Expr} {k : Int} (h : EV R e Γ C (.int k)) : PV R (some e) Γ C (some k) := ⟨k, rfl, h⟩
theorem pv_run {o : Option Expr} {oi : Option Int} (h : PV R o Γ C oi) (a : At R σ Γ F H C) {Q : Option Int → Hp → Prop} (k : ∀ F' H', At R σ Γ F' H' C → Ex F F' → Q oi H') : tO R.X o σ H Q := by
  cases o with
  | none =>
    cases h
    exact k F H a (Ex.refl F)
  | some e =>
    obtain ⟨i, rfl, h⟩ := h
    refine h (fun s C' => s = .int i ∧ C' = C) ⟨rfl, rfl⟩ σ F H a _ fun v s F1 H1 C1 a1 r1 e1 h1 => ?_
    obtain ⟨rfl, rfl⟩ := h1
    exact ⟨i, sat_int r1, k F1 H1 a1 e1⟩
theorem ev_slL {e : Expr} {lo hi : Option Expr} {l u : Option Int} {p2 pos : Pos} {ds : List PyData} {s : SV} (ha : EV R e Γ C s) (hd : DV C s (.list ds)) (hl : PV R lo Γ C l) (hu : PV R hi Γ C u) : EV R (.Subscript e (.Slice lo hi none p2) pos) Γ C (.d (.list (cutL ds l u))) := fun Q q σ F H a QV k => by
  refine wE_of (pe_slice sl_list pe_w po_w po_w) ?_
  refine ha (fun s' C' => s' = s ∧ C' = C) ⟨rfl, rfl⟩ σ F H a _ fun v s' F1 H1 C1 a1 r1 e1 h1 => ?_
  obtain ⟨rfl, rfl⟩ := h1
  refine pv_run hl a1 fun F2 H2 a2 e2 => pv_run hu a2 fun F3 H3 a3 e3 => ?_
  have key : ∃ p xs, v = .ref p ∧ SqL R.X.K H3 p xs ∧ DpAll R.X.K F3 xs ds := by
    rcases hd with rfl | ⟨c, ds', rfl, hc, hl'⟩
    · obtain ⟨p, xs, rfl, sq, rd⟩ := sat_lst (r1.ex (e2.trans e3))
      exact ⟨p, xs, rfl, a3.g.sub.sqL sq, rd⟩
    · cases hl'
      obtain rfl : v = .ref c := r1
      obtain ⟨vs, hv, rs⟩ := a3.g.cel c _ hc
      exact ⟨c, vs, rfl, .inl (.inl hv), sall_dp rs⟩
  obtain ⟨p, xs, rfl, sq, rd⟩ := key
  refine ⟨p, xs, rfl, sq, fun p' np => ?_⟩
  obtain ⟨a4, e4⟩ := a3.lay (o := .lst (cutV xs l u)) np
  refine k _ (.d (.list (cutL ds l u))) _ _ C1 a4 (.lst (.inl (.inl upd_same)) (dpAll_ex e4 ?_)) (((e1.trans e2).trans e3).trans e4) q
  unfold cutV cutL
  rw [dpAll_len rd]
  exact dpAll_take _ (dpAll_drop _ rd)
theorem ev_slS {e : Expr} {lo hi : Option Expr} {l u : Option Int} {p2 pos : Pos} {z : Str} (ha : EV R e Γ C (.str z)) (hz : z.length ≤ sizeLine) (hl : PV R lo Γ C l) (hu : PV R hi Γ C u) : EV R (.Subscript e (.Slice lo hi none p2) pos) Γ C (.str (cutS z l u)) := fun Q q σ F H a QV k => by
  refine wE_of (pe_slice sl_str pe_w po_w po_w) ?_
  refine ha (fun s' C' => s' = .str z ∧ C' = C) ⟨rfl, rfl⟩ σ F H a _ fun v s' F1 H1 C1 a1 r1 e1 h1 => ?_
  obtain ⟨rfl, rfl⟩ := h1
  refine pv_run hl a1 fun F2 H2 a2 e2 => pv_run hu a2 fun F3 H3 a3 e3 => ?_
  rw [sat_str r1]
  exact ⟨z, rfl, hz, k _ (.str (cutS z l u)) F3 H3 C1 a3 (Dp.str _) ((e1.trans e2).trans e3) q⟩
theorem strs_dp {K : PySem.W.Frag} {F : Hp} : ∀ ys : List Str, DpAll K F (ys.map V.str) (ys.map .str)
  | [] => .nil
  | y :: ys => .cons (.str y) (strs_dp ys)
theorem ev_split {o e : Expr} {apos pos : Pos} {a b : Str} (ho : EV R o Γ C (.str a)) (he : EV R e Γ C (.str b)) (hb : (b.length == 0) = false) (hz : a.length + 2 ≤ sizeLine) (hs : starEach [e] R.X.env = [(false, eval e R.X.env)] := by rfl) (hbase : attributeBase o "split" R.X.env (eval o R.X.env) = eval o R.X.env := by rfl) (hline : (apos.endLine == pos.line) = true := by rfl) :
    EV R (.Call (.Attribute o "split" apos) [e] [] pos) Γ C (.d (.list ((Txt.split a b).map .str))) := fun Q q σ F H at0 QV k => by
  refine wE_of (pe_split pe_w pe_w hs hbase hline) ?_
  refine ho (fun s' C' => s' = .str a ∧ C' = C) ⟨rfl, rfl⟩ σ F H at0 _ fun v s' F1 H1 C1 a1 r1 e1 h1 => ?_
  obtain ⟨rfl, rfl⟩ := h1
  refine ⟨⟨a, sat_str r1⟩, ?_⟩
  refine he (fun s' C' => s' = .str b ∧ C' = C1) ⟨rfl, rfl⟩ σ F1 H1 a1 _ fun u s' F2 H2 C2 a2 r2 e2 h2 => ?_
  obtain ⟨rfl, rfl⟩ := h2
  refine ⟨a, b, sat_str r1, by rw [sat_str r2], hb, hz, fun p np => ?_⟩
  obtain ⟨a3, e3⟩ := a2.lay (o := .lst ((Txt.split a b).map V.str)) np
  refine k _ (.d (.list ((Txt.split a b).map .str))) _ _ C2 a3 (.lst (.inl (.inl upd_same)) (strs_dp _)) ((e1.trans e2).trans e3) q
theorem strs_of {K : PySem.W.Frag} {F : Hp} : ∀ {vs : List V} {ys : List Str}, DpAll K F vs (ys.map .str) → vs = ys.map V.str
  | [], [], _ => rfl
  | _ :: _, _ :: _, .cons r t => by rw [List.map_cons, ← strs_of t]; cases r; rfl
theorem ev_join {o e : Expr} {apos pos : Pos} {a : Str} {ys : List Str} {s : SV} (ho : EV R o Γ C (.str a)) (he : EV R e Γ C s) (hd : DV C s (.list (ys.map .str))) (hz : (ys.map (·.length)).sum + ys.length * a.length ≤ 16777216) (hs : starEach [e] R.X.env = [(false, eval e R.X.env)] := by rfl) (hbase : attributeBase o "join" R.X.env (eval o R.X.env) = eval o R.X.env := by rfl) (hline : (apos.endLine == pos.line) = true := by rfl) :
    EV R (.Call (.Attribute o "join" apos) [e] [] pos) Γ C (.str (Txt.join a ys)) := fun Q q σ F H at0 QV k => by
  refine wE_of (pe_join pe_w pe_w hs hbase hline) ?_
  refine ho (fun s' C' => s' = .str a ∧ C' = C) ⟨rfl, rfl⟩ σ F H at0 _ fun v s' F1 H1 C1 a1 r1 e1 h1 => ?_
  obtain ⟨rfl, rfl⟩ := h1
  refine ⟨⟨a, sat_str r1⟩, ?_⟩
  refine he (fun s' C' => s' = s ∧ C' = C1) ⟨rfl, rfl⟩ σ F1 H1 a1 _ fun u s' F2 H2 C2 a2 r2 e2 h2 => ?_
  obtain ⟨rfl, rfl⟩ := h2
  have hD := dv_dp a2 r2 hd
  have : ∃ b xs, u = .ref b ∧ SqL R.X.K H2 b xs ∧ xs = ys.map V.str := by
    cases hD with
    | lst sq r => exact ⟨_, _, rfl, sq, strs_of r⟩
  obtain ⟨b, xs, rfl, sq, rfl⟩ := this
  exact ⟨a, b, ys, sat_str r1, rfl, .inl sq, hz, k _ (.str (Txt.join a ys)) F2 H2 C2 a2 (Dp.str _) (e1.trans e2) q⟩
theorem ev_intS {e : Expr} {p pos : Pos} {a : Str} {n : Int} (hm : R.X.mg "int" = none) (ha : EV R e Γ C (.str a)) (hn : PySem.intText? a = some n) (hl : a.length ≤ 640) (hg : Gl R.X "int" := by rfl) (hs : starEach [e] R.X.env = (false, eval e R.X.env) :: starEach [] R.X.env := by rfl) (hpl : (backTo pos (starEach [] R.X.env)).any (·.1) = false := by rfl) : EV R (.Call (.Name "int" p) [e] [] pos) Γ C (.int n) :=
  ev_cb (pe_callTy call_int_str hg hm (by decide +kernel) pa_w (by decide) (by decide) hs hpl) (av_cons ha av_nil hs) fun σ F H at0 vs r QV k => by
    obtain ⟨v, rfl, r1⟩ := sall1 r
    rw [sat_str r1]
    exact ⟨a, n, rfl, hn, hl, k _ F H at0 (Dp.int _) (Ex.refl F)⟩
theorem tv_inS {a b : Expr} {pos : Pos} {c : Nat} {z : Str} (ha : EV R a Γ C (.str ⟨#[c]⟩)) (hb : EV R b Γ C (.str z)) (hm : behindInMarks .In b = false := by rfl) : TV R (.Compare a [.In] [b] pos) Γ C (decide (c ∈ z.cps.toList)) := tv_op2 (pt_cmpR op_in_sign pe_w pe_w hm) ha hb fun σ F H at0 v u r1 r2 QV k => by
  rw [sat_str r1, sat_str r2]
  exact ⟨c, z, rfl, rfl, k _ F H at0 (Dp.bl _) (Ex.refl F)⟩
theorem tv_niS {a b : Expr} {pos : Pos} {c : Nat} {z : Str} (ha : EV R a Γ C (.str ⟨#[c]⟩)) (hb : EV R b Γ C (.str z)) (hm : behindInMarks .NotIn b = false := by rfl) : TV R (.Compare a [.NotIn] [b] pos) Γ C (!decide (c ∈ z.cps.toList)) := tv_op2 (pt_cmpR op_notIn_sign pe_w pe_w hm) ha hb fun σ F H at0 v u r1 r2 QV k => by
  rw [sat_str r1, sat_str r2]
  exact ⟨c, z, rfl, rfl, k _ F H at0 (Dp.bl _) (Ex.refl F)⟩
end
end Dl

namespace Dl
open PySem PySem.Spec PyProof.Rows L2
section
variable {R : Rx} {Γ : Gm} {C C' : Cells} {σ : L2.St} {F H F' H' : Hp}
/-! ### operations behind effects -/
def OW (R : Rx) (Γ : Gm) (C : Cells) (r : R2) (x y : SV) (Q : SV → Cells → Prop) : Prop := ∀ σ F H, At R σ Γ F H C → ∀ v u, SAt R.X.K F v x → SAt R.X.K F u y → ∀ QV : VK, (∀ w z F' H' C', At R σ Γ F' H' C' → SAt R.X.K F' w z → Ex F F' → Q z C' → QV w H') → r v u H QV
theorem OV.w {r : R2} {x y z : SV} {Q : SV → Cells → Prop} (h : OV R Γ C r x y z) (q : Q z C) : OW R Γ C r x y Q := fun σ F H a v u r1 r2 QV k => h σ F H a v u r1 r2 QV fun w F' H' a' r' e => k w z F' H' C a' r' e q
theorem ee_op2 {e a b : Expr} {r : R2} {Q : SV → Cells → Prop} (pe : PE R.X e (tOp r (wE R.X a) (wE R.X b))) (h : EE R a Γ C fun x C1 => EE R b Γ C1 fun y C2 => OW R Γ C2 r x y Q) : EE R e Γ C Q := fun σ F H at0 QV k => by
  refine wE_of pe ?_
  refine h σ F H at0 _ fun v s F1 H1 C1 a1 r1 e1 h1 => ?_
  refine h1 σ F1 H1 a1 _ fun u s2 F2 H2 C2 a2 r2 e2 h2 => ?_
  exact h2 σ F2 H2 a2 v u (r1.ex e2) r2 QV fun w z F3 H3 C3 a3 r3 e3 q => k w z F3 H3 C3 a3 r3 ((e1.trans e2).trans e3) q
theorem et_op2 {e a b : Expr} {r : R2} {Q : Bool → Cells → Prop} (pt : PT R.X e (tTest (tOp r (wE R.X a) (wE R.X b)))) (h : EE R a Γ C fun x C1 => EE R b Γ C1 fun y C2 => OW R Γ C2 r x y fun z C3 => ∃ c, z = .bl c ∧ Q c C3) : ET R e Γ C Q := fun σ F H at0 QV k => by
  refine wT_of pt ?_
  refine h σ F H at0 _ fun v s F1 H1 C1 a1 r1 e1 h1 => ?_
  refine h1 σ F1 H1 a1 _ fun u s2 F2 H2 C2 a2 r2 e2 h2 => ?_
  exact h2 σ F2 H2 a2 v u (r1.ex e2) r2 _ fun w z F3 H3 C3 a3 r3 e3 q => by
    obtain ⟨c, rfl, q⟩ := q
    exact ⟨c, sat_bl r3, k c F3 H3 C3 a3 ((e1.trans e2).trans e3) q⟩
section
variable {a b : Expr} {pos : Pos}
theorem ee_eqV {Q : SV → Cells → Prop} (hu : R.X.A.units + 64 < cLine) (h : EE R a Γ C fun s C1 => EE R b Γ C1 fun t C2 => ∃ x y, DV C2 s x ∧ DV C2 t y ∧ SeqAt.shaped x = true ∧ SeqAt.shaped y = true ∧ Q (.bl (PyData.eqv x y)) C2) : EE R (.Compare a [.Eq] [b] pos) Γ C Q :=
  ee_op2 (pe_cmpR (op_eqD hu) pe_w pe_w (nomark _)) (h.imp fun s C1 h1 => h1.imp fun t C2 ⟨x, y, h1, h2, h3, h4, q⟩ => (ov_eqV h1 h2 h3 h4).w q)
theorem et_neV {Q : Bool → Cells → Prop} (hu : R.X.A.units + 64 < cLine) (h : EE R a Γ C fun s C1 => EE R b Γ C1 fun t C2 => ∃ x y, DV C2 s x ∧ DV C2 t y ∧ SeqAt.shaped x = true ∧ SeqAt.shaped y = true ∧ Q (!PyData.eqv x y) C2) : ET R (.Compare a [.NotEq] [b] pos) Γ C Q :=
  et_op2 (pt_cmpR (op_neD hu) pe_w pe_w (nomark _)) (h.imp fun s C1 h1 => h1.imp fun t C2 ⟨x, y, h1, h2, h3, h4, q⟩ => (ov_neV h1 h2 h3 h4).w ⟨_, rfl, q⟩)
theorem et_eqV {Q : Bool → Cells → Prop} (hu : R.X.A.units + 64 < cLine) (h : EE R a Γ C fun s C1 => EE R b Γ C1 fun t C2 => ∃ x y, DV C2 s x ∧ DV C2 t y ∧ SeqAt.shaped x = true ∧ SeqAt.shaped y = true ∧ Q (PyData.eqv x y) C2) : ET R (.Compare a [.Eq] [b] pos) Γ C Q :=
  et_op2 (pt_cmpR (op_eqD hu) pe_w pe_w (nomark _)) (h.imp fun s C1 h1 => h1.imp fun t C2 ⟨x, y, h1, h2, h3, h4, q⟩ => (ov_eqV h1 h2 h3 h4).w ⟨_, rfl, q⟩)
end
/-! ### zip -/
theorem dv_item {K : PySem.W.Frag} {s : SV} {ds : List PyData} {b : Addr} {i : Nat} {x' : V} {R2 : Rx} {σ2 : L2.St} {Γ2 : Gm} {F2 H2 : Hp} {C2 : Cells} (hk : R2.X.K = K) (a2 : At R2 σ2 Γ2 F2 H2 C2) (r1 : SAt K F2 (.ref b) s) (hp2 : DV C2 s (.list ds)) (y : ∀ xs, SqL K H2 b xs → xs[i]? = some x') : Dp K F2 x' (gd ds i) := by
  subst hk
  rcases hp2 with hs' | ⟨c, ds', hs', hc, hl⟩
  · rw [hs'] at r1
    obtain ⟨b', zs, eb, sqF, rdF⟩ := sat_lst r1
    cases eb
    have hz := y zs (a2.g.sub.sqL sqF)
    obtain ⟨d, hd1, hd2⟩ := dpAll_get' rdF hz
    unfold gd
    rw [hd1]
    exact hd2
  · rw [hs'] at r1
    cases hl
    have eb : V.ref b = .ref c := r1
    cases eb
    obtain ⟨vs, hv, rs⟩ := a2.g.cel b _ hc
    have hz := y vs (.inl (.inl hv))
    obtain ⟨d, hd1, hd2⟩ := dpAll_get' (sall_dp rs) hz
    unfold gd
    rw [hd1]
    exact hd2
theorem dv_sq {R2 : Rx} {σ2 : L2.St} {Γ2 : Gm} {F2 H2 : Hp} {C2 : Cells} {v : V} {s : SV} {ds : List PyData} (a2 : At R2 σ2 Γ2 F2 H2 C2) (r : SAt R2.X.K F2 v s) (h : DV C2 s (.list ds)) : ∃ b xs, v = .ref b ∧ SqL R2.X.K H2 b xs ∧ xs.length = ds.length := by
  have hD := dv_dp a2 r h
  cases hD with
  | lst sq r => exact ⟨_, _, rfl, sq, dpAll_len r⟩
theorem ei_zip {elts : List Expr} {kk : Nat} {tpos p pos : Pos} {e e2 : Expr} {Q : (Cells → Prop) → Nat → (Nat → PyData) → Cells → Prop} (hm : R.X.mg "zip" = none) (h : EE R e Γ C fun s C1 => EE R e2 Γ C1 fun t C2 => ∃ ds es, DV C2 s (.list ds) ∧ DV C2 t (.list es) ∧ Q (fun C => DV C s (.list ds) ∧ DV C t (.list es)) (min ds.length es.length) (fun i => .tuple [gd ds i, gd es i]) C2)
    (hg : Gl R.X "zip" := by rfl) (hs : starEach [e, e2] R.X.env = (false, eval e R.X.env) :: starEach [e2] R.X.env := by rfl) (hs0 : starEach [e2] R.X.env = (false, eval e2 R.X.env) :: starEach [] R.X.env := by rfl) (hpl : (backTo pos (starEach [e2] R.X.env)).any (·.1) = false := by rfl) : EI R (.Tuple elts kk tpos) (.Call (.Name "zip" p) [e, e2] [] pos) Γ C Q := fun σ F H a QV k => by
  refine wI_of (pi_zip hg hm (pa_cons pe_w (pa_cons pe_w pa_nil hs0) hs) hs hpl) ?_
  refine h σ F H a _ fun v s F1 H1 C1 a1 r1 e1 h1 => ?_
  refine h1 σ F1 H1 a1 _ fun u t F2 H2 C2 a2 r2 e2 h2 => ?_
  obtain ⟨ds, es, hd, he, q⟩ := h2
  obtain ⟨b, xs, rfl, sq, _⟩ := dv_sq a2 (r1.ex e2) hd
  obtain ⟨b', ys, rfl, sq', _⟩ := dv_sq a2 r2 he
  refine ⟨b, b', xs, ys, rfl, sq, sq', k (Itz R.X.K b b') F2 H2 C2 _ _ _ a2 (e1.trans e2) ?_ q⟩
  intro R2 σ2 Γ2 F3 H3 C3 hk a3 e3 hp3
  have s1 : SAt R2.X.K F3 (.ref b) s := by rw [hk]; exact (r1.ex e2).ex e3
  have s2 : SAt R2.X.K F3 (.ref b') t := by rw [hk]; exact r2.ex e3
  obtain ⟨_, xs3, eb, sq3, ln⟩ := dv_sq a3 s1 hp3.1
  cases eb
  obtain ⟨_, ys3, eb, sq3', ln'⟩ := dv_sq a3 s2 hp3.2
  cases eb
  rw [hk] at sq3 sq3' s1 s2
  refine ⟨fun i hi => ⟨xs3, ys3, xs3[i]'(by omega), ys3[i]'(by omega), sq3, sq3', List.getElem?_eq_getElem _, List.getElem?_eq_getElem _⟩, fun i hi => ⟨xs3, ys3, sq3, sq3', by omega⟩, fun i x H' hi y => ?_⟩
  obtain ⟨T, x', y', rfl, nT, rfl, hx, hy⟩ := y
  obtain ⟨a4, e4⟩ := a3.lay (o := .tup [x', y']) nT
  exact ⟨_, a4, e4, .tup (.inl (.inl upd_same)) (.cons (dp_ex e4 (dv_item hk a3 s1 hp3.1 hx)) (.cons (dp_ex e4 (dv_item hk a3 s2 hp3.2 hy)) .nil))⟩
end
/-! ### the end of a law -/
def spLaw : DSp := fun ss C Q _ => ∃ ns : List Int, ss = [.d (.list (ns.map .int))] ∧ ns.length ≤ 63 ∧ ∀ C', Q (.bl true) C'
theorem dp_ints {K : PySem.W.Frag} {H : Hp} : ∀ ns : List Int, DpAll K H (ns.map V.int) (ns.map .int)
  | [] => .nil
  | n :: ns => .cons (.int n) (dp_ints ns)
theorem law_sp {K : PySem.W.Frag} {H : Hp} {a : Addr} {ns : List Int} (hl : ns.length ≤ 63) (h : SqL K H a (ns.map V.int)) : toSp K spLaw [.ref a] H (fun v _ => v = .bl true) (fun _ _ _ => False) :=
  ⟨H, fun _ => none, [.d (.list (ns.map .int))], fun s _ => s = .bl true, fun _ _ => False, ⟨Ex.refl H, fun _ _ e => (nomatch e), fun _ _ e => (nomatch e)⟩, .cons (.lst h (dp_ints ns)) .nil, ⟨ns, rfl, hl, fun _ => rfl⟩,
    fun s C' v F' H' e _ _ r => by subst e; exact sat_bl r, fun _ _ _ _ _ _ q => q.elim⟩
theorem walk_end {l : PySem.W.OpenLaw} {k : Nat} {q : Program} {loose : List Str} {XP : (Str → Option Value) → Heap → Prop} {YP : World → Heap → Prop} {d : DefRec} {x : Str}
    (hn : l.most = some 63) (hdf : d.params.defaults = []) (hr : Room k callerA)
    (F : ∀ (w : World) (mg : Str → Option Value) (fa : Addr) (h : Heap), YP w h → h.Ns mainGlobals mg → mg d.name = some (.ref fa) →
      ∃ (K : PySem.W.Frag) (fd : FuncData), K.In h ∧ (∀ (s : Shared) (u : Value), BindsTo s fd ⟨[u], []⟩ [(x, u)]) ∧ ∀ base : Heap, K.In base → base.Ns mainGlobals mg → FnOk l.prog w K mg base (L2.CX l.prog w) k fa fd [x] (toSp K spLaw)) :
    PySem.W.WalkO q loose XP YP l.row.toRowW d [] (fun f vs => PySem.call f vs) := by
  refine Att.attach_call hn hdf fun w s₀ s₁ mg mb fa o pm cd doc a vs ns G Y ho hd hcd hmg hobj hints hlen hg => ?_
  obtain ⟨K, fd, KX, hb, hF⟩ := F w mg fa _ Y G.T.g hmg
  exact law_call KX G.T.g G.T.b G.T.builtins G.T.nolimit hg hobj hints (Nat.le_trans hlen (by decide)) hr hF hb (fun H hO hS => law_sp hlen hS) fun H e s' z => by
    obtain ⟨_, _, _, _, _, _, _, _, _, _, _, _, z⟩ := z
    exact z.elim
/-- what isinstance asks of an exception's class -/
def excCB (K : PySem.W.Frag) (x : Str) : Bool :=
  He.eqO (PySem.W.findIn K (.ref (He.ga K x)) "__getattribute__") (some (some (.builtin "BaseException.__getattribute__"))) && (He.eqO (PySem.W.findIn K (.ref (He.ga K x)) "__getattr__") (some none) && (decide (PySem.W.subIn K (.ref (He.ga K x)) (.type "BaseException") = some true) &&
  (PySem.W.hasDictIn K (He.ga K x) && (He.eqO (PySem.W.findIn K (.ref (He.ga K x)) "__class__") (some (some (.builtin "object.__class__"))) && (He.eqO (PySem.W.specialIn K (.builtin "object.__class__") "__get__") (some (some (.builtin "getset_descriptor.__get__"))) &&
  (decide (PySem.W.takesIn K (.builtin "object.__class__") = some true) && decide (PySem.W.mroIn K (He.ga K x) (.type "object") = some true)))))))
theorem excCB_ok {K : PySem.W.Frag} {x : Str} (h : excCB K x = true) : ExcC K (He.ga K x) := by
  obtain ⟨h1, h⟩ := He.ba h
  obtain ⟨h2, h⟩ := He.ba h
  obtain ⟨h3, h⟩ := He.ba h
  obtain ⟨h4, h⟩ := He.ba h
  obtain ⟨h5, h⟩ := He.ba h
  obtain ⟨h6, h⟩ := He.ba h
  obtain ⟨h7, h8⟩ := He.ba h
  exact ⟨He.eqO_ok h1, He.eqO_ok h2, of_decide_eq_true h3, h4, He.eqO_ok h5, He.eqO_ok h6, of_decide_eq_true h7, of_decide_eq_true h8⟩
end Dl

namespace Bx
open PySem PySem.Spec PyProof.Rows L2 Dl
abbrev topS (i : Nat) : Stmt := PySem.Challenge.pw_boxnarrow_k14_nodes_put.main.body.getD i (.Pass ⟨0, 0, 0, 0⟩)
abbrev s_weight_of : Stmt := topS 9
abbrev N_weight_of : List Str := ["node", "heavy"]
theorem sc_weight_of : FnScope N_weight_of ["node", "heavy"] (defScope s_weight_of) := ⟨rfl, rfl, rfl, by decide +kernel, rfl, by decide +kernel, by decide +kernel⟩
abbrev s__law_cell_at : Stmt := topS 11
abbrev N__law_cell_at : List Str := ["_law_script", "_law_k"]
theorem sc__law_cell_at : FnScope N__law_cell_at ["_law_script", "_law_k"] (defScope s__law_cell_at) := ⟨rfl, rfl, rfl, by decide +kernel, rfl, by decide +kernel, by decide +kernel⟩
abbrev s__law_whole : Stmt := topS 12
abbrev N__law_whole : List Str := ["_law_found"]
theorem sc__law_whole : FnScope N__law_whole ["_law_found"] (defScope s__law_whole) := ⟨rfl, rfl, rfl, by decide +kernel, rfl, by decide +kernel, by decide +kernel⟩
abbrev s__law_node : Stmt := topS 13
abbrev N__law_node : List Str := ["_law_cell", "_law_many", "_law_bottom", "_law_one", "_law_other"]
theorem sc__law_node : FnScope N__law_node ["_law_cell", "_law_many"] (defScope s__law_node) := ⟨rfl, rfl, rfl, by decide +kernel, rfl, by decide +kernel, by decide +kernel⟩
abbrev s__law_weight : Stmt := topS 14
abbrev N__law_weight : List Str := ["_law_node_here", "_law_heavy"]
theorem sc__law_weight : FnScope N__law_weight ["_law_node_here", "_law_heavy"] (defScope s__law_weight) := ⟨rfl, rfl, rfl, by decide +kernel, rfl, by decide +kernel, by decide +kernel⟩
abbrev s__law_put : Stmt := topS 15
abbrev N__law_put : List Str := ["_law_net", "_law_node_here", "_law_heard", "e"]
theorem sc__law_put : FnScope N__law_put ["_law_net", "_law_node_here"] (defScope s__law_put) := ⟨rfl, rfl, rfl, by decide +kernel, rfl, by decide +kernel, by decide +kernel⟩
abbrev s__law_step : Stmt := topS 16
abbrev N__law_step : List Str := ["_law_net", "_law_nodes", "_law_heavy", "_law_node_here", "_law_heard"]
theorem sc__law_step : FnScope N__law_step ["_law_net", "_law_nodes", "_law_heavy", "_law_node_here"] (defScope s__law_step) := ⟨rfl, rfl, rfl, by decide +kernel, rfl, by decide +kernel, by decide +kernel⟩
abbrev s__law_listed : Stmt := topS 17
abbrev N__law_listed : List Str := ["_law_net", "_law_nodes", "_law_found", "_law_node_here", "_law_due"]
theorem sc__law_listed : FnScope N__law_listed ["_law_net", "_law_nodes"] (defScope s__law_listed) := ⟨rfl, rfl, rfl, by decide +kernel, rfl, by decide +kernel, by decide +kernel⟩
abbrev s_law : Stmt := topS 18
abbrev N_law : List Str := ["_law_script", "_law_net", "_law_beside", "_law_nodes", "_law_heavy", "_law_k", "_law_cell", "_law_at", "_law_weight_here", "_law_found"]
theorem sc_law : FnScope N_law ["_law_script"] (defScope s_law) := ⟨rfl, rfl, rfl, by decide +kernel, rfl, by decide +kernel, by decide +kernel⟩
abbrev s_Net___init__ : Stmt := inClass (topS 8) 0
abbrev N_Net___init__ : List Str := ["self"]
theorem sc_Net___init__ : FnScope N_Net___init__ ["self"] (defScope s_Net___init__) := ⟨rfl, rfl, rfl, by decide +kernel, rfl, by decide +kernel, by decide +kernel⟩
abbrev s_Net_put : Stmt := inClass (topS 8) 1
abbrev N_Net_put : List Str := ["self", "node", "heavy"]
theorem sc_Net_put : FnScope N_Net_put ["self", "node"] (defScope s_Net_put) := ⟨rfl, rfl, rfl, by decide +kernel, rfl, by decide +kernel, by decide +kernel⟩
abbrev s_Net_nodes : Stmt := inClass (topS 8) 3
abbrev N_Net_nodes : List Str := ["self"]
theorem sc_Net_nodes : FnScope N_Net_nodes ["self"] (defScope s_Net_nodes) := ⟨rfl, rfl, rfl, by decide +kernel, rfl, by decide +kernel, by decide +kernel⟩
abbrev s_Net_weight : Stmt := inClass (topS 8) 4
abbrev N_Net_weight : List Str := ["self", "at"]
theorem sc_Net_weight : FnScope N_Net_weight ["self", "at"] (defScope s_Net_weight) := ⟨rfl, rfl, rfl, by decide +kernel, rfl, by decide +kernel, by decide +kernel⟩
abbrev cl (K : PySem.W.Frag) (x : Str) : Addr := He.ga K x
/-- what the top leaves -/
structure Top (w : World) (K : PySem.W.Frag) (mg : Str → Option Value) : Prop where
  f_weight_of : HasF K mg "weight_of" s_weight_of
  f__law_cell_at : HasF K mg "_law_cell_at" s__law_cell_at
  f__law_whole : HasF K mg "_law_whole" s__law_whole
  f__law_node : HasF K mg "_law_node" s__law_node
  f__law_weight : HasF K mg "_law_weight" s__law_weight
  f__law_put : HasF K mg "_law_put" s__law_put
  f__law_step : HasF K mg "_law_step" s__law_step
  f__law_listed : HasF K mg "_law_listed" s__law_listed
  f_law : HasF K mg "law" s_law
  k_Net : HasK K mg "Net" (cl K "Net") "Net.__init__" s_Net___init__
  m_Net_put : HasM K (cl K "Net") "put" "Net.put" s_Net_put
  m_Net_nodes : HasM K (cl K "Net") "nodes" "Net.nodes" s_Net_nodes
  m_Net_weight : HasM K (cl K "Net") "weight" "Net.weight" s_Net_weight
  c_Net : Cls K (cl K "Net")
  n_Net_heavy : NoAttr K (cl K "Net") "heavy"
  n_Net_kept : NoAttr K (cl K "Net") "kept"
  x_TooMuch : HasX K mg "TooMuch" (cl K "TooMuch")
  g_BoxError : mg "BoxError" = some (.ref (cl K "BoxError"))
  g_NoRow : mg "NoRow" = some (.ref (cl K "NoRow"))
  g_TooMuch : mg "TooMuch" = some (.ref (cl K "TooMuch"))
  e_TooMuch_BoxError : PySem.W.exmOne K (.ref (cl K "TooMuch")) (.ref (cl K "BoxError")) = some true
  ec_TooMuch : ExcC K (cl K "TooMuch")
  i_TooMuch_NoRow : PySem.W.kitOne K (.ref (cl K "TooMuch")) (.ref (cl K "NoRow")) = some false
  i_TooMuch_TooMuch : PySem.W.kitOne K (.ref (cl K "TooMuch")) (.ref (cl K "TooMuch")) = some true
  v_HEAVIEST : ∃ t, mg "HEAVIEST" = some (.int 16 t)
  v_MOST : ∃ t, mg "MOST" = some (.int 60 t)
  b_bool : mg "bool" = none
  b_enumerate : mg "enumerate" = none
  b_int : mg "int" = none
  b_isinstance : mg "isinstance" = none
  b_len : mg "len" = none
  b_list : mg "list" = none
  b_range : mg "range" = none
  b_tuple : mg "tuple" = none
  b_zip : mg "zip" = none
  b_ValueError : mg "ValueError" = none
end Bx
namespace Bx
open PySem PySem.Spec PyProof.Rows L2 Dl
/-! ### small things -/
section
variable {R : Rx} {Γ : Gm} {C C' : Cells}
theorem go {e : Expr} {s : SV} {Q : SV → Cells → Prop} (h : EV R e Γ C s) (q : Q s C) : EE R e Γ C Q := h Q q
theorem goA {e : List Expr} {s : List SV} {Q : List SV → Cells → Prop} (h : AV R e Γ C s) (q : Q s C) : EA R e Γ C Q := h Q q
theorem goT {e : Expr} {s : Bool} {Q : Bool → Cells → Prop} (h : TV R e Γ C s) (q : Q s C) : ET R e Γ C Q := h Q q
theorem s_yes {c : Expr} {a b : List Stmt} {pos : Pos} {N : Nx} {p : Bool} (h : TV R c Γ C p) (hp : p = true) (k : SS R a Γ C N) : S1 R (.If c a b pos) Γ C N := s_ifv h (fun _ => k) fun q => by rw [hp] at q; cases q
theorem s_no {c : Expr} {a b : List Stmt} {pos : Pos} {N : Nx} {p : Bool} (h : TV R c Γ C p) (hp : p = false) (k : SS R b Γ C N) : S1 R (.If c a b pos) Γ C N := s_ifv h (fun q => by rw [hp] at q; cases q) fun _ => k
theorem beq_str (a b : Str) : (a == b) = decide (a = b) := by
  by_cases h : a = b
  · subst h; simp
  · rw [decide_eq_false h]; exact beq_eq_false_iff_ne.mpr h
theorem eqV_str (a b : Str) : eqV (.str a) (.str b) = decide (a = b) := beq_str a b
theorem inV_strs (x : Str) : ∀ ys : List Str, inV (.str x) (ys.map V.str) = decide (x ∈ ys)
  | [] => by simp [inV]
  | y :: ys => by
    have ih := inV_strs x ys
    unfold inV at ih ⊢
    rw [List.map_cons, List.any_cons, ih, eqV_str]
    by_cases h : y = x
    · subst h; simp
    · have h2 : ¬ x = y := fun e => h e.symm
      simp [h, h2]
theorem flat_strs : ∀ ys : List Str, (ys.map V.str).all flatV = true
  | [] => rfl
  | y :: ys => by rw [List.map_cons, List.all_cons, flat_strs ys]; rfl
theorem tv_inTS {a b : Expr} {pos : Pos} {x : Str} {ys : List Str} (ha : EV R a Γ C (.str x)) (hb : EV R b Γ C (.d (.tuple (ys.map .str)))) (hm : behindInMarks .In b = false := by rfl) : TV R (.Compare a [.In] [b] pos) Γ C (decide (x ∈ ys)) := tv_op2 (pt_cmpR op_in_seq pe_w pe_w hm) ha hb fun σ F H at0 v u r1 r2 QV k => by
  obtain ⟨q, zs, rfl, s2, d2⟩ := sat_tup r2
  have e := strs_of d2
  subst e
  rw [sat_str r1]
  refine ⟨q, _, rfl, .inr (at0.g.sub.sqT s2), rfl, flat_strs ys, ?_⟩
  rw [if_neg (by decide), inV_strs]
  exact k _ F H at0 (Dp.bl _) (Ex.refl F)
theorem tv_niTS {a b : Expr} {pos : Pos} {x : Str} {ys : List Str} (ha : EV R a Γ C (.str x)) (hb : EV R b Γ C (.d (.tuple (ys.map .str)))) (hm : behindInMarks .NotIn b = false := by rfl) : TV R (.Compare a [.NotIn] [b] pos) Γ C (!decide (x ∈ ys)) := tv_op2 (pt_cmpR op_notIn_seq pe_w pe_w hm) ha hb fun σ F H at0 v u r1 r2 QV k => by
  obtain ⟨q, zs, rfl, s2, d2⟩ := sat_tup r2
  have e := strs_of d2
  subst e
  rw [sat_str r1]
  refine ⟨q, _, rfl, .inr (at0.g.sub.sqT s2), rfl, flat_strs ys, ?_⟩
  rw [if_pos rfl, inV_strs]
  exact k _ F H at0 (Dp.bl _) (Ex.refl F)
theorem room64 {k : Nat} {A : Around} (h : Room k A) : A.units + 64 < cLine := h.units
theorem room65 {k : Nat} {A : Around} (h : Room k A) : A.units + 65 < cLine := by have := h.un; omega
end
/-! ### lists of data -/
theorem atI_map {α β : Type} (f : α → β) {xs : List α} {i : Int} {x : α} (h : atI xs i = some x) : atI (xs.map f) i = some (f x) := by
  unfold atI at h ⊢
  rw [List.length_map]
  cases q : ixN xs.length i with
  | none => rw [q] at h; cases h
  | some j =>
    rw [q] at h
    have h' : xs[j]? = some x := h
    show (xs.map f)[j]? = _
    rw [List.getElem?_map, h']
    rfl
theorem atI_lt {α : Type} {xs : List α} {i : Int} (h0 : 0 ≤ i) (h1 : i < xs.length) : atI xs i = some (xs[i.toNat]'(by omega)) := by
  have e : i = ((i.toNat : Nat) : Int) := by omega
  have := atI_nat (xs := xs) (j := i.toNat) (v := xs[i.toNat]'(by omega)) (List.getElem?_eq_getElem _)
  rw [← e] at this
  exact this
theorem gd_map {α : Type} (f : α → PyData) (xs : List α) (i : Nat) (h : i < xs.length) : gd (xs.map f) i = f xs[i] := by
  unfold gd
  rw [List.getElem?_map, List.getElem?_eq_getElem h]
  rfl
/-! ### equality of data -/
theorem eqvAll_nil : PyData.eqvAll [] [] = true := by simp only [PyData.eqvAll]
theorem eqvAll_cons (x y : PyData) (xs ys : List PyData) : PyData.eqvAll (x :: xs) (y :: ys) = (PyData.eqv x y && PyData.eqvAll xs ys) := by simp only [PyData.eqvAll]
theorem eqvAll_nc (y : PyData) (ys : List PyData) : PyData.eqvAll [] (y :: ys) = false := by simp only [PyData.eqvAll]
theorem eqvAll_cn (y : PyData) (ys : List PyData) : PyData.eqvAll (y :: ys) [] = false := by simp only [PyData.eqvAll]
theorem eqv_tuple (xs ys : List PyData) : PyData.eqv (.tuple xs) (.tuple ys) = PyData.eqvAll xs ys := by simp only [PyData.eqv]
theorem eqv_list (xs ys : List PyData) : PyData.eqv (.list xs) (.list ys) = PyData.eqvAll xs ys := by simp only [PyData.eqv]
theorem eqv_int (i j : Int) : PyData.eqv (.int i) (.int j) = decide (i = j) := by
  simp only [PyData.eqv]
  by_cases h : i = j
  · subst h; simp
  · rw [decide_eq_false h]; exact beq_eq_false_iff_ne.mpr h
theorem eqv_str (i j : Str) : PyData.eqv (.str i) (.str j) = decide (i = j) := by simp only [PyData.eqv]; exact beq_str i j
theorem eqv_bool (i j : Bool) : PyData.eqv (.bool i) (.bool j) = decide (i = j) := by simp only [PyData.eqv]; cases i <;> cases j <;> rfl
theorem eqv_is (i : Int) (s : Str) : PyData.eqv (.int i) (.str s) = false := by simp only [PyData.eqv]
theorem eqv_si (i : Int) (s : Str) : PyData.eqv (.str s) (.int i) = false := by simp only [PyData.eqv]
theorem can_int (i : Int) : PyData.canLay0 (.int i) = true := by simp only [PyData.canLay0]
theorem can_str (x : Str) : PyData.canLay0 (.str x) = PyData.strOk x := by simp only [PyData.canLay0]
theorem can_tup (xs : List PyData) : PyData.canLay0 (.tuple xs) = PyData.canLayAll0 xs := by simp only [PyData.canLay0]
theorem can_list (xs : List PyData) : PyData.canLay0 (.list xs) = PyData.canLayAll0 xs := by simp only [PyData.canLay0]
theorem can_bool (b : Bool) : PyData.canLay0 (.bool b) = true := by simp only [PyData.canLay0]
theorem can_non : PyData.canLay0 .none = true := by simp only [PyData.canLay0]
theorem canAll_nil : PyData.canLayAll0 [] = true := by simp only [PyData.canLayAll0]
theorem canAll_cons (x : PyData) (xs : List PyData) : PyData.canLayAll0 (x :: xs) = (PyData.canLay0 x && PyData.canLayAll0 xs) := by simp only [PyData.canLayAll0]
theorem dep_int (i : Int) : PyData.depth (.int i) = 0 := by simp only [PyData.depth]
theorem dep_str (i : Str) : PyData.depth (.str i) = 0 := by simp only [PyData.depth]
theorem dep_bool (i : Bool) : PyData.depth (.bool i) = 0 := by simp only [PyData.depth]
theorem dep_non : PyData.depth .none = 0 := by simp only [PyData.depth]
theorem dep_tup (xs : List PyData) : PyData.depth (.tuple xs) = PyData.depthAll xs + 1 := by simp only [PyData.depth]
theorem dep_list (xs : List PyData) : PyData.depth (.list xs) = PyData.depthAll xs + 1 := by simp only [PyData.depth]
theorem depAll_nil : PyData.depthAll [] = 0 := by simp only [PyData.depthAll]
theorem depAll_cons (x : PyData) (xs : List PyData) : PyData.depthAll (x :: xs) = max (PyData.depth x) (PyData.depthAll xs) := by simp only [PyData.depthAll]
theorem shaped_iff {d : PyData} : SeqAt.shaped d = true ↔ d.canLay0 = true ∧ d.depth ≤ 64 := by
  unfold SeqAt.shaped
  rw [Bool.and_eq_true, decide_eq_true_eq]
/-- shapes by a bound of the depth -/
def Sh (n : Nat) (d : PyData) : Prop := d.canLay0 = true ∧ d.depth ≤ n
theorem Sh.ok {n : Nat} {d : PyData} (h : Sh n d) (hn : n ≤ 64 := by decide) : SeqAt.shaped d = true := shaped_iff.mpr ⟨h.1, Nat.le_trans h.2 hn⟩
theorem sh_int {n : Nat} (i : Int) : Sh n (.int i) := ⟨can_int i, by rw [dep_int]; exact Nat.zero_le _⟩
theorem sh_bool {n : Nat} (i : Bool) : Sh n (.bool i) := ⟨can_bool i, by rw [dep_bool]; exact Nat.zero_le _⟩
theorem sh_non {n : Nat} : Sh n .none := ⟨can_non, by rw [dep_non]; exact Nat.zero_le _⟩
theorem sh_str {n : Nat} {x : Str} (h : PyData.strOk x = true) : Sh n (.str x) := ⟨by rw [can_str]; exact h, by rw [dep_str]; exact Nat.zero_le _⟩
def ShAll (n : Nat) (ds : List PyData) : Prop := ∀ d ∈ ds, Sh n d
theorem shAll_can {n : Nat} : ∀ {ds : List PyData}, ShAll n ds → PyData.canLayAll0 ds = true ∧ PyData.depthAll ds ≤ n
  | [], _ => ⟨canAll_nil, by rw [depAll_nil]; exact Nat.zero_le _⟩
  | d :: ds, h => by
    obtain ⟨h1, h2⟩ := shAll_can (ds := ds) fun e he => h e (List.mem_cons_of_mem _ he)
    obtain ⟨h3, h4⟩ := h d List.mem_cons_self
    rw [canAll_cons, depAll_cons, h1, h3]
    exact ⟨rfl, by omega⟩
theorem sh_tup {n : Nat} {ds : List PyData} (h : ShAll n ds) : Sh (n + 1) (.tuple ds) := by
  obtain ⟨h1, h2⟩ := shAll_can h
  exact ⟨by rw [can_tup]; exact h1, by rw [dep_tup]; omega⟩
theorem sh_list {n : Nat} {ds : List PyData} (h : ShAll n ds) : Sh (n + 1) (.list ds) := by
  obtain ⟨h1, h2⟩ := shAll_can h
  exact ⟨by rw [can_list]; exact h1, by rw [dep_list]; omega⟩
theorem shAll_nil {n : Nat} : ShAll n [] := fun d h => nomatch h
theorem shAll_cons {n : Nat} {d : PyData} {ds : List PyData} (h : Sh n d) (h2 : ShAll n ds) : ShAll n (d :: ds) := fun e he => by
  rcases List.mem_cons.mp he with rfl | he
  · exact h
  · exact h2 e he
theorem shAll_map {α : Type} {n : Nat} {f : α → PyData} {xs : List α} (h : ∀ x ∈ xs, Sh n (f x)) : ShAll n (xs.map f) := fun d hd => by
  obtain ⟨x, hx, rfl⟩ := List.mem_map.mp hd
  exact h x hx
end Bx
namespace Bx
open PySem PySem.Spec PyProof.Rows L2 Dl
/-! ### nodes -/
inductive Nd where
  | num (t b : Int) | unk (k : Int) | plus (i j : Int) | minus (i j : Int) | times (i j : Int) | pow (i n : Int)
  deriving DecidableEq
def Nd.enc : Nd → PyData
  | .num t b => .tuple [.str "number", .int t, .int b]
  | .unk k => .tuple [.str "unknown", .int k]
  | .plus i j => .tuple [.str "plus", .int i, .int j]
  | .minus i j => .tuple [.str "minus", .int i, .int j]
  | .times i j => .tuple [.str "times", .int i, .int j]
  | .pow i n => .tuple [.str "power", .int i, .int n]
theorem eqv_sii (a b : Str) (i j k l : Int) : PyData.eqv (.tuple [.str a, .int i, .int j]) (.tuple [.str b, .int k, .int l]) = (decide (a = b) && (decide (i = k) && decide (j = l))) := by
  rw [eqv_tuple, eqvAll_cons, eqvAll_cons, eqvAll_cons, eqvAll_nil, eqv_str, eqv_int, eqv_int, Bool.and_true]
theorem eqv_si2 (a b : Str) (i k : Int) : PyData.eqv (.tuple [.str a, .int i]) (.tuple [.str b, .int k]) = (decide (a = b) && decide (i = k)) := by
  rw [eqv_tuple, eqvAll_cons, eqvAll_cons, eqvAll_nil, eqv_str, eqv_int, Bool.and_true]
theorem eqv_23 (a b : Str) (i k l : Int) : PyData.eqv (.tuple [.str a, .int i]) (.tuple [.str b, .int k, .int l]) = false := by
  rw [eqv_tuple, eqvAll_cons, eqvAll_cons, eqvAll_nc, Bool.and_false, Bool.and_false]
theorem eqv_32 (a b : Str) (i k l : Int) : PyData.eqv (.tuple [.str a, .int i, .int l]) (.tuple [.str b, .int k]) = false := by
  rw [eqv_tuple, eqvAll_cons, eqvAll_cons, eqvAll_cn, Bool.and_false, Bool.and_false]
theorem dec_true {p : Prop} [Decidable p] (h : p) (b : Bool) : (decide p && b) = b := by rw [decide_eq_true h, Bool.true_and]
theorem dec_false {p : Prop} [Decidable p] (h : ¬ p) (b : Bool) : (decide p && b) = false := by rw [decide_eq_false h, Bool.false_and]
theorem dec_and {p q r : Prop} [Decidable p] [Decidable q] [Decidable r] (h : r ↔ p ∧ q) : (decide p && decide q) = decide r := by
  by_cases hp : p
  · by_cases hq : q
    · rw [decide_eq_true hp, decide_eq_true hq, decide_eq_true (h.mpr ⟨hp, hq⟩)]; rfl
    · rw [decide_eq_false hq, Bool.and_false, decide_eq_false fun z => hq (h.mp z).2]
  · rw [decide_eq_false hp, Bool.false_and, decide_eq_false fun z => hp (h.mp z).1]
theorem Nd.eqv (a b : Nd) : PyData.eqv a.enc b.enc = decide (a = b) := by
  cases a <;> cases b <;> unfold Nd.enc <;> first
    | (rw [eqv_sii, dec_true rfl]; exact dec_and (by simp))
    | (rw [eqv_si2, dec_true rfl]; exact decide_eq_decide.mpr (by simp))
    | (rw [eqv_23]; exact (decide_eq_false (fun h => by cases h)).symm)
    | (rw [eqv_32]; exact (decide_eq_false (fun h => by cases h)).symm)
    | (rw [eqv_sii, dec_false (by decide)]; exact (decide_eq_false (fun h => by cases h)).symm)
theorem Nd.sh {n : Nat} (a : Nd) : Sh (n + 1) a.enc := by
  cases a <;> exact sh_tup (shAll_cons (sh_str (by decide +kernel)) (by first | exact shAll_cons (sh_int _) (shAll_cons (sh_int _) shAll_nil) | exact shAll_cons (sh_int _) shAll_nil))
theorem Nd.shaped (a : Nd) : SeqAt.shaped a.enc = true := (Nd.sh (n := 0) a).ok
theorem Nd.shapedL (ns : List Nd) : SeqAt.shaped (.list (ns.map Nd.enc)) = true := (sh_list (n := 1) (shAll_map fun x _ => Nd.sh x)).ok
theorem Nd.any (x : Nd) (ns : List Nd) : ((ns.map Nd.enc).any fun z => PyData.eqv z x.enc) = decide (x ∈ ns) := by
  induction ns with
  | nil => simp
  | cons n ns ih =>
    rw [List.map_cons, List.any_cons, ih, Nd.eqv]
    by_cases h : n = x
    · subst h; simp
    · have h2 : ¬ x = n := fun e => h e.symm
      simp [h, h2]
/-- the first place -/
theorem idx_get {ns : List Nd} {x : Nd} (h : x ∈ ns) : ns[ns.idxOf x]? = some x := by
  have hl := List.idxOf_lt_length_of_mem h
  rw [List.getElem?_eq_getElem hl, List.getElem_idxOf]
theorem idx_first {ns : List Nd} {x : Nd} {m : Nat} {z : PyData} (h : m < ns.idxOf x) (hz : (ns.map Nd.enc)[m]? = some z) : PyData.eqv z x.enc = false := by
  rw [List.getElem?_map] at hz
  cases q : ns[m]? with
  | none => rw [q] at hz; cases hz
  | some n =>
    rw [q] at hz
    cases hz
    rw [Nd.eqv]
    refine decide_eq_false fun e => ?_
    subst e
    have hm : m < ns.length := (List.getElem?_eq_some_iff.mp q).1
    have hm2 : ns[m] = n := (List.getElem?_eq_some_iff.mp q).2
    have := List.not_of_lt_findIdx (xs := ns) (p := (· == n)) (i := m) h
    rw [hm2] at this
    simp at this
/-- weights -/
def wt (x : Nd) (hs : List Int) : Int := match x with
  | .num _ _ => 1
  | .unk _ => 1
  | .pow i n => n * hs.getD i.toNat 0
  | .plus i j => hs.getD i.toNat 0 + hs.getD j.toNat 0
  | .minus i j => hs.getD i.toNat 0 + hs.getD j.toNat 0
  | .times i j => hs.getD i.toNat 0 + hs.getD j.toNat 0
/-- the parts stand there -/
def Nd.fits (x : Nd) (n : Nat) : Prop := match x with
  | .num _ _ => True
  | .unk _ => True
  | .pow i m => 0 ≤ i ∧ i < n ∧ 2 ≤ m ∧ m ≤ 6
  | .plus i j => 0 ≤ i ∧ i < n ∧ 0 ≤ j ∧ j < n
  | .minus i j => 0 ≤ i ∧ i < n ∧ 0 ≤ j ∧ j < n
  | .times i j => 0 ≤ i ∧ i < n ∧ 0 ≤ j ∧ j < n
theorem atI_hs {hs : List Int} {i : Int} (h0 : 0 ≤ i) (h1 : i < hs.length) : atI (hs.map SV.int) i = some (.int (hs.getD i.toNat 0)) := by
  have h := atI_lt (xs := hs) h0 h1
  have hl : i.toNat < hs.length := by omega
  rw [atI_map SV.int h, List.getD_eq_getElem?_getD, List.getElem?_eq_getElem hl]
  rfl
end Bx
namespace Bx
open PySem PySem.Spec PyProof.Rows L2 Dl
/-- a net in cells -/
structure NetAt (K : PySem.W.Frag) (C : Cells) (p k h : Addr) (ns : List Nd) (hs : List Int) : Prop where
  hp : C p = some (.ins (cl K "Net") [("kept", .c k), ("heavy", .c h)])
  hk : C k = some (.lst ((ns.map Nd.enc).map SV.d))
  hh : C h = some (.lst (hs.map SV.int))
  len : ns.length = hs.length
  kh : k ≠ h
theorem NetAt.kp {K : PySem.W.Frag} {C : Cells} {p k h : Addr} {ns : List Nd} {hs : List Int} (n : NetAt K C p k h ns hs) : p ≠ k ∧ p ≠ h := by
  refine ⟨fun e => ?_, fun e => ?_⟩
  · have := n.hp; rw [e, n.hk] at this; cases this
  · have := n.hp; rw [e, n.hh] at this; cases this
/-- a net with one node more -/
def netPut (C : Cells) (k h : Addr) (ns : List Nd) (hs : List Int) (x : Nd) : Cells := cupd (cupd C k (.lst (((ns ++ [x]).map Nd.enc).map SV.d))) h (.lst ((hs ++ [wt x hs]).map SV.int))
theorem NetAt.put {K : PySem.W.Frag} {C : Cells} {p k h : Addr} {ns : List Nd} {hs : List Int} (n : NetAt K C p k h ns hs) (x : Nd) : NetAt K (netPut C k h ns hs x) p k h (ns ++ [x]) (hs ++ [wt x hs]) := by
  obtain ⟨h1, h2⟩ := n.kp
  unfold netPut
  exact ⟨by rw [cupd_ne h2, cupd_ne h1]; exact n.hp, by rw [cupd_ne n.kh, cupd_same], cupd_same, by simp [n.len], n.kh⟩
def sp_weight_of : DSp := fun ss C Q _ => ∃ (x : Nd) (h : Addr) (hs : List Int), ss = [.d x.enc, .c h] ∧ C h = some (.lst (hs.map SV.int)) ∧ x.fits hs.length ∧ Q (.int (wt x hs)) C
section
variable {P : Program} {w : World} {K : PySem.W.Frag} {mg : Str → Option Value} {base : Heap}
theorem ok_weight_of (T : Top w K mg) : Fc P w K mg base "weight_of" 1 ["node", "heavy"] sp_weight_of := by
  refine fc_of (N := N_weight_of) T.f_weight_of sc_weight_of (fun _ _ _ _ _ _ us hl => match us, hl with | [_, _], _ => rfl) (fun ss C Q E q => by obtain ⟨_, _, _, rfl, _⟩ := q; rfl) fun bd ss Q tk hr hsp => ?_
  obtain ⟨x, h, hs, rfl, hh, fit, q⟩ := hsp
  cases x with
  | num t b => exact ss_cons (s_yes (tv_inTS (ev_ixT (ev_v 0) ev_int rfl) (ev_tup (ds := [.str "number", .str "unknown"]) (av_cons ev_str (av_cons ev_str av_nil))) (ys := ["number", "unknown"])) (by decide) (ss_one (s_retv ev_int q)))
  | unk k => exact ss_cons (s_yes (tv_inTS (ev_ixT (ev_v 0) ev_int rfl) (ev_tup (ds := [.str "number", .str "unknown"]) (av_cons ev_str (av_cons ev_str av_nil))) (ys := ["number", "unknown"])) (by decide) (ss_one (s_retv ev_int q)))
  | pow i n =>
    obtain ⟨h0, h1, h2, h3⟩ := fit
    refine ss_cons (s_no (tv_inTS (ev_ixT (ev_v 0) ev_int rfl) (ev_tup (ds := [.str "number", .str "unknown"]) (av_cons ev_str (av_cons ev_str av_nil))) (ys := ["number", "unknown"])) (by decide) (ss_nil ?_))
    refine ss_cons (s_yes (tv_eqs (ev_ixT (ev_v 0) ev_int rfl) ev_str) (by decide) (ss_one (s_retv (ev_mulS (ev_ixT (ev_v 0) ev_int rfl) (ev_ixC (ev_v 1) (ev_ixT (ev_v 0) ev_int rfl) hh (atI_hs h0 h1)) (.inl ⟨by omega, by omega⟩)) q)))
  | plus i j =>
    obtain ⟨h0, h1, h2, h3⟩ := fit
    refine ss_cons (s_no (tv_inTS (ev_ixT (ev_v 0) ev_int rfl) (ev_tup (ds := [.str "number", .str "unknown"]) (av_cons ev_str (av_cons ev_str av_nil))) (ys := ["number", "unknown"])) (by decide) (ss_nil ?_))
    refine ss_cons (s_no (tv_eqs (ev_ixT (ev_v 0) ev_int rfl) ev_str) (by decide) (ss_nil ?_))
    exact ss_one (s_retv (ev_add (ev_ixC (ev_v 1) (ev_ixT (ev_v 0) ev_int rfl) hh (atI_hs h0 h1)) (ev_ixC (ev_v 1) (ev_ixT (ev_v 0) ev_int rfl) hh (atI_hs h2 h3))) q)
  | minus i j =>
    obtain ⟨h0, h1, h2, h3⟩ := fit
    refine ss_cons (s_no (tv_inTS (ev_ixT (ev_v 0) ev_int rfl) (ev_tup (ds := [.str "number", .str "unknown"]) (av_cons ev_str (av_cons ev_str av_nil))) (ys := ["number", "unknown"])) (by decide) (ss_nil ?_))
    refine ss_cons (s_no (tv_eqs (ev_ixT (ev_v 0) ev_int rfl) ev_str) (by decide) (ss_nil ?_))
    exact ss_one (s_retv (ev_add (ev_ixC (ev_v 1) (ev_ixT (ev_v 0) ev_int rfl) hh (atI_hs h0 h1)) (ev_ixC (ev_v 1) (ev_ixT (ev_v 0) ev_int rfl) hh (atI_hs h2 h3))) q)
  | times i j =>
    obtain ⟨h0, h1, h2, h3⟩ := fit
    refine ss_cons (s_no (tv_inTS (ev_ixT (ev_v 0) ev_int rfl) (ev_tup (ds := [.str "number", .str "unknown"]) (av_cons ev_str (av_cons ev_str av_nil))) (ys := ["number", "unknown"])) (by decide) (ss_nil ?_))
    refine ss_cons (s_no (tv_eqs (ev_ixT (ev_v 0) ev_int rfl) ev_str) (by decide) (ss_nil ?_))
    exact ss_one (s_retv (ev_add (ev_ixC (ev_v 1) (ev_ixT (ev_v 0) ev_int rfl) hh (atI_hs h0 h1)) (ev_ixC (ev_v 1) (ev_ixT (ev_v 0) ev_int rfl) hh (atI_hs h2 h3))) q)
/-- Net(): an empty net -/
def sp_net_init (K : PySem.W.Frag) : DSp := fun ss C Q _ => ∃ p, ss = [.c p] ∧ C p = some (.ins (cl K "Net") []) ∧ ∀ k h, C k = none → C h = none → k ≠ h → k ≠ p → h ≠ p → Q .non (cupd (cupd (cupd (cupd C k (.lst [])) p (.ins (cl K "Net") [("kept", .c k)])) h (.lst [])) p (.ins (cl K "Net") [("kept", .c k), ("heavy", .c h)]))
theorem ok_net_init (T : Top w K mg) : Kc P w K mg base "Net" (cl K "Net") 1 ["self"] (sp_net_init K) := by
  refine kc_of (N := N_Net___init__) T.k_Net sc_Net___init__ (fun _ _ _ _ _ _ us hl => match us, hl with | [_], _ => rfl) (fun ss C Q E q => by obtain ⟨_, rfl, _⟩ := q; rfl) fun bd ss Q tk hr hsp => ?_
  obtain ⟨p, rfl, hp, q⟩ := hsp
  refine ss_cons (s_fld (ee_lstC (ea_nil ⟨Nat.zero_le _, fun k hk => ?_⟩)))
  have kp : k ≠ p := fun e => by rw [e, hp] at hk; cases hk
  refine ee_v 0 rfl ⟨p, _, [], rfl, by rw [cupd_ne (Ne.symm kp)]; exact hp, T.c_Net, T.n_Net_kept, (show (0 : Nat) < 1000 by decide), ?_⟩
  refine ss_one (s_fld (ee_lstC (ea_nil ⟨Nat.zero_le _, fun h hh => ?_⟩)))
  have hp2 : h ≠ p := fun e => by rw [e, cupd_same] at hh; cases hh
  have hk2 : h ≠ k := fun e => by rw [e, cupd_ne kp, cupd_same] at hh; cases hh
  rw [cupd_ne hp2, cupd_ne hk2] at hh
  refine ee_v 0 rfl ⟨p, _, [("kept", .c k)], rfl, by rw [cupd_ne (Ne.symm hp2), cupd_same]; rfl, T.c_Net, T.n_Net_heavy, (show (1 : Nat) < 1000 by decide), ?_⟩
  exact q k h hk hh (Ne.symm hk2) kp hp2
theorem net_made {K : PySem.W.Frag} {C : Cells} {p k h : Addr} (hk : k ≠ h) (kp : k ≠ p) (hp : h ≠ p) : NetAt K (cupd (cupd (cupd (cupd C k (.lst [])) p (.ins (cl K "Net") [("kept", .c k)])) h (.lst [])) p (.ins (cl K "Net") [("kept", .c k), ("heavy", .c h)])) p k h [] [] :=
  ⟨cupd_same, by rw [cupd_ne kp, cupd_ne hk, cupd_ne kp, cupd_same]; rfl, by rw [cupd_ne hp, cupd_same]; rfl, rfl, hk⟩
/-- net.put(node) -/
def sp_put (K : PySem.W.Frag) : DSp := fun ss C Q E => ∃ p k h ns hs x, ss = [.c p, .d (Nd.enc x)] ∧ NetAt K C p k h ns hs ∧ x.fits hs.length ∧ ns.length ≤ 1000 ∧
  (x ∈ ns → Q (.int (ns.idxOf x)) C) ∧ (x ∉ ns → (wt x hs > 16 ∨ ns.length ≥ 60) → E ⟨cl K "TooMuch", none⟩ C) ∧ (x ∉ ns → wt x hs ≤ 16 → ns.length < 60 → Q (.int ns.length) (netPut C k h ns hs x))
theorem ok_put (T : Top w K mg) : Mc P w K mg base (cl K "Net") "put" 2 ["self", "node"] (sp_put K) := by
  refine mc_of (N := N_Net_put) T.m_Net_put sc_Net_put (fun _ _ _ _ _ _ us hl => match us, hl with | [_, _], _ => rfl) (fun ss C Q E q => by obtain ⟨_, _, _, _, _, _, rfl, _⟩ := q; rfl) fun bd ss Q tk hr hsp => ?_
  obtain ⟨p, k, h, ns, hs, x, rfl, na, fit, hl, q1, q2, q3⟩ := hsp
  have kept : ∀ {Γ : Gm} {o : Expr} {pos : Pos}, EV (Rb P w K mg base N_Net_put "Net.put" (defScope s_Net_put) bd) o Γ bd.C (.c p) → attributeBase o "kept" (Rb P w K mg base N_Net_put "Net.put" (defScope s_Net_put) bd).X.env (eval o (Rb P w K mg base N_Net_put "Net.put" (defScope s_Net_put) bd).X.env) = eval o (Rb P w K mg base N_Net_put "Net.put" (defScope s_Net_put) bd).X.env → EV (Rb P w K mg base N_Net_put "Net.put" (defScope s_Net_put) bd) (.Attribute o "kept" pos) Γ bd.C (.c k) := fun ho hb => ev_fld ho na.hp T.c_Net T.n_Net_kept rfl hb
  have heavy : ∀ {Γ : Gm} {o : Expr} {pos : Pos}, EV (Rb P w K mg base N_Net_put "Net.put" (defScope s_Net_put) bd) o Γ bd.C (.c p) → attributeBase o "heavy" (Rb P w K mg base N_Net_put "Net.put" (defScope s_Net_put) bd).X.env (eval o (Rb P w K mg base N_Net_put "Net.put" (defScope s_Net_put) bd).X.env) = eval o (Rb P w K mg base N_Net_put "Net.put" (defScope s_Net_put) bd).X.env → EV (Rb P w K mg base N_Net_put "Net.put" (defScope s_Net_put) bd) (.Attribute o "heavy" pos) Γ bd.C (.c h) := fun ho hb => ev_fld ho na.hp T.c_Net T.n_Net_heavy rfl hb
  refine ss_cons (s_ifv (tv_inV (room65 hr) (ev_v 1) (kept (ev_v 0) rfl) dv_d (dv_c na.hk) x.shaped (Nd.shapedL ns)) (fun hin => ?_) fun hni => ss_nil ?_)
  · rw [Nd.any] at hin
    have hin := of_decide_eq_true hin
    exact ss_one (s_retv (ev_index (room65 hr) (kept (ev_v 0) rfl) (ev_v 1) dv_d (dv_c na.hk) x.shaped (Nd.shapedL ns) (by rw [List.getElem?_map, idx_get hin]; rfl) (by rw [Nd.eqv]; simp) fun m z hm hz => idx_first hm hz) (q1 hin))
  · rw [Nd.any] at hni
    have hni := of_decide_eq_false hni
    refine ss_cons (s_set 2 (ee_call ((ok_weight_of T).mono (by decide)) hr tk (goA (av_cons (ev_v 1) (av_cons (heavy (ev_v 0) rfl) av_nil)) ⟨x, h, hs, rfl, na.hh, fit, ?_⟩)) sc_Net_put.nd)
    refine ss_cons (s_ifv (tv_w (wv_or (tv_gt (ev_v 2) (ev_gint T.v_HEAVIEST)) fun _ => wv_or1 (tv_ge (ev_lenC T.b_len (kept (ev_v 0) rfl) na.hk) (ev_gint T.v_MOST)))) (fun hb => ?_) fun hb => ss_nil ?_)
    · refine ss_one (s_raise T.x_TooMuch rfl tk (q2 hni ?_))
      rw [Bool.or_eq_true, decide_eq_true_eq, decide_eq_true_eq] at hb
      simp only [List.length_map] at hb
      omega
    · rw [Bool.or_eq_false_iff, decide_eq_false_iff_not, decide_eq_false_iff_not] at hb
      simp only [List.length_map] at hb
      have hkp := na.kp
      refine ss_cons (s_expr (ee_append (go (kept (ev_v 0) rfl) ⟨k, _, rfl, na.hk, go (ev_v 1) ⟨_, na.hk, by simp only [List.length_map]; exact Nat.lt_of_le_of_lt hl (by decide), ?_⟩⟩)))
      refine ss_cons (s_expr (ee_append (go (ev_fld (ev_v 0) (fs := [("kept", .c k), ("heavy", .c h)]) (by rw [cupd_ne hkp.1]; exact na.hp) T.c_Net T.n_Net_heavy rfl) (⟨h, hs.map SV.int, rfl, by rw [cupd_ne (Ne.symm na.kh)]; exact na.hh, go (ev_v 2) ⟨hs.map SV.int, by rw [cupd_ne (Ne.symm na.kh)]; exact na.hh, by simp only [List.length_map]; rw [← na.len]; exact Nat.lt_of_le_of_lt hl (by decide), ?_⟩⟩))))
      have e : ((cupd (cupd bd.C k (.lst (((ns.map Nd.enc).map SV.d) ++ [.d x.enc]))) h (.lst (hs.map SV.int ++ [.int (wt x hs)]))) : Cells) = netPut bd.C k h ns hs x := by
        unfold netPut
        simp only [List.map_append, List.map_cons, List.map_nil]
      rw [e]
      have n2 := na.put x
      refine ss_one (s_retv (ev_sub (ev_lenC T.b_len (ev_fld (ev_v 0) n2.hp T.c_Net T.n_Net_kept rfl) n2.hk) ev_int) ?_)
      have e2 : ((((ns ++ [x]).map Nd.enc).map SV.d).length : Int) - 1 = ns.length := by simp
      rw [e2]
      exact q3 hni (by omega) (by omega)
/-- net.nodes(): a new list -/
def sp_nodes (K : PySem.W.Frag) : DSp := fun ss C Q _ => ∃ p k h ns hs, ss = [.c p] ∧ NetAt K C p k h ns hs ∧ ∀ q, C q = none → Q (.c q) (cupd C q (.lst ((ns.map Nd.enc).map SV.d)))
theorem ok_nodes (T : Top w K mg) : Mc P w K mg base (cl K "Net") "nodes" 1 ["self"] (sp_nodes K) := by
  refine mc_of (N := N_Net_nodes) T.m_Net_nodes sc_Net_nodes (fun _ _ _ _ _ _ us hl => match us, hl with | [_], _ => rfl) (fun ss C Q E q => by obtain ⟨_, _, _, _, _, rfl, _⟩ := q; rfl) fun bd ss Q tk hr hsp => ?_
  obtain ⟨p, k, h, ns, hs, rfl, na, q⟩ := hsp
  exact ss_one (s_ret (ee_listC T.b_list (go (ev_fld (ev_v 0) na.hp T.c_Net T.n_Net_kept rfl) ⟨_, dv_c na.hk, q⟩)))
/-- net.weight(at) -/
def sp_weight (K : PySem.W.Frag) : DSp := fun ss C Q _ => ∃ p k h ns hs i, ss = [.c p, .int i] ∧ NetAt K C p k h ns hs ∧ 0 ≤ i ∧ i < hs.length ∧ Q (.int (hs.getD i.toNat 0)) C
theorem ok_weight (T : Top w K mg) : Mc P w K mg base (cl K "Net") "weight" 1 ["self", "at"] (sp_weight K) := by
  refine mc_of (N := N_Net_weight) T.m_Net_weight sc_Net_weight (fun _ _ _ _ _ _ us hl => match us, hl with | [_, _], _ => rfl) (fun ss C Q E q => by obtain ⟨_, _, _, _, _, _, rfl, _⟩ := q; rfl) fun bd ss Q tk hr hsp => ?_
  obtain ⟨p, k, h, ns, hs, i, rfl, na, h0, h1, q⟩ := hsp
  exact ss_one (s_retv (ev_ixC (ev_fld (ev_v 0) na.hp T.c_Net T.n_Net_heavy rfl) (ev_v 1) na.hh (atI_hs h0 h1)) q)
end
end Bx
namespace Bx
open PySem PySem.Spec PyProof.Rows L2 Dl
theorem eqvAll_refl {α : Type} {f : α → PyData} (h : ∀ x, PyData.eqv (f x) (f x) = true) : ∀ xs : List α, PyData.eqvAll (xs.map f) (xs.map f) = true
  | [] => eqvAll_nil
  | x :: xs => by rw [List.map_cons, eqvAll_cons, h, eqvAll_refl h xs]; rfl
theorem kit_ii : kitB "int" "int" = some true := by decide +kernel
theorem kit_ib : kitB "int" "bool" = some false := by decide +kernel
theorem kit_tt : kitB "tuple" "tuple" = some true := by decide +kernel
theorem kit_ll : kitB "list" "list" = some true := by decide +kernel
theorem kit_ss : kitB "str" "str" = some true := by decide +kernel
theorem atI_zero {α : Type} (x : α) (xs : List α) : atI (x :: xs) 0 = some x := atI_nat (j := 0) rfl
theorem len1 {α : Type} (a : α) : [a].length ≤ sizeLine := by simp only [List.length_cons, List.length_nil]; decide
theorem cdiv_small {i j : Int} (h : 0 < j) (h2 : j < 2 ^ 64) : CDivW i j := wide_div h (b := 64) (by omega) (by decide) (by decide)
section
variable {P : Program} {w : World} {K : PySem.W.Frag} {mg : Str → Option Value} {base : Heap}
/-- the k-th cell, nought behind the last -/
def cellAt (ns : List Int) (k : Int) : Int := ns.getD k.toNat 0
def sp_cell_at : DSp := fun ss C Q _ => ∃ (ns : List Int) (k : Int), ss = [.d (.list (ns.map .int)), .int k] ∧ 0 ≤ k ∧ Q (.int (cellAt ns k)) C
theorem ok_cell_at (T : Top w K mg) : Fc P w K mg base "_law_cell_at" 1 ["_law_script", "_law_k"] sp_cell_at := by
  refine fc_of (N := N__law_cell_at) T.f__law_cell_at sc__law_cell_at (fun _ _ _ _ _ _ us hl => match us, hl with | [_, _], _ => rfl) (fun ss C Q E q => by obtain ⟨_, _, rfl, _⟩ := q; rfl) fun bd ss Q tk hr hsp => ?_
  obtain ⟨ns, k, rfl, h0, q⟩ := hsp
  refine ss_cons (s_ifv (tv_lt (ev_v 1) (ev_lenL T.b_len (ev_v 0))) (fun h => ?_) fun h => ss_nil ?_)
  · have hk := of_decide_eq_true h
    simp only [List.length_map] at hk
    refine ss_one (s_retv (ev_ixL (ev_v 0) (ev_v 1) (atI_map .int (atI_lt h0 hk))) ?_)
    have e : cellAt ns k = ns[k.toNat]'(by omega) := by
      unfold cellAt
      rw [List.getD_eq_getElem?_getD, List.getElem?_eq_getElem (by omega)]
      rfl
    rw [e] at q
    exact q
  · have hk := of_decide_eq_false h
    simp only [List.length_map] at hk
    refine ss_one (s_retv ev_int ?_)
    have e : cellAt ns k = 0 := by
      unfold cellAt
      rw [List.getD_eq_getElem?_getD, List.getElem?_eq_none (by omega)]
      rfl
    rw [e] at q
    exact q
/-- of a whole number -/
def sp_whole : DSp := fun ss C Q _ => ∃ (i : Int), ss = [.int i] ∧ Q (.bl true) C
theorem ok_whole (T : Top w K mg) : Fc P w K mg base "_law_whole" 1 ["_law_found"] sp_whole := by
  refine fc_of (N := N__law_whole) T.f__law_whole sc__law_whole (fun _ _ _ _ _ _ us hl => match us, hl with | [_], _ => rfl) (fun ss C Q E q => by obtain ⟨_, rfl, _⟩ := q; rfl) fun bd ss Q tk hr hsp => ?_
  obtain ⟨i, rfl, q⟩ := hsp
  exact ss_one (s_retv (ev_and (ev_isTy (n := "int") (d := .int i) T.b_isinstance T.b_int (by decide +kernel) (ev_v 0) dv_d kit_ii) fun _ => ev_one (ev_not (ev_isTy (n := "bool") (d := .int i) T.b_isinstance T.b_bool (by decide +kernel) (ev_v 0) dv_d kit_ib))) q)
end
end Bx
namespace Bx
open PySem PySem.Spec PyProof.Rows L2 Dl
/-! ### law k14 -/
def lword (r : Int) : Str := if r = 0 then "plus" else if r = 1 then "minus" else "times"
def lnode (c m : Int) : Nd :=
  if m = 0 ∨ c % 8 = 0 then .num ((1 + c / 8 % 4) * (c / 32 % 2001 - 1000) + 1) (1 + c / 8 % 4)
  else if c % 8 = 1 then .unk (c / 8 % 5)
  else if c % 8 = 2 then .pow (c / 8 % m) (2 + c / 8 / m % 5)
  else
    let o := if c % 8 = 7 then m - 1 else c / 8 / m % m
    if c % 8 % 3 = 0 then .plus (c / 8 % m) o else if c % 8 % 3 = 1 then .minus (c / 8 % m) o else .times (c / 8 % m) o
theorem lnode_fits {c m : Int} {n : Nat} (hc : 0 ≤ c) (hm : m = n) : (lnode c m).fits n := by
  subst hm
  have hn : (0 : Int) ≤ n := by omega
  unfold lnode
  split
  · trivial
  · rename_i h
    have hm : (0 : Int) < n := by omega
    have h1 := Int.emod_nonneg (c / 8) (show (n : Int) ≠ 0 by omega)
    have h2 := Int.emod_lt_of_pos (c / 8) hm
    have h3 := Int.emod_nonneg (c / 8 / n) (show (n : Int) ≠ 0 by omega)
    have h4 := Int.emod_lt_of_pos (c / 8 / n) hm
    split
    · trivial
    · split
      · refine ⟨h1, h2, by omega, by omega⟩
      · dsimp only
        split <;> split <;> (try split) <;> exact ⟨h1, h2, by omega, by omega⟩
section
variable {P : Program} {w : World} {K : PySem.W.Frag} {mg : Str → Option Value} {base : Heap}
def sp_lnode : DSp := fun ss C Q _ => ∃ (c m : Int), ss = [.int c, .int m] ∧ 0 ≤ c ∧ 0 ≤ m ∧ m ≤ 1000 ∧ Q (.d (lnode c m).enc) C
theorem ok_lnode (T : Top w K mg) : Fc P w K mg base "_law_node" 1 ["_law_cell", "_law_many"] sp_lnode := by
  refine fc_of (N := N__law_node) T.f__law_node sc__law_node (fun _ _ _ _ _ _ us hl => match us, hl with | [_, _], _ => rfl) (fun ss C Q E q => by obtain ⟨_, _, rfl, _⟩ := q; rfl) fun bd ss Q tk hr hsp => ?_
  obtain ⟨c, m, rfl, hc, hm, hm2, q⟩ := hsp
  have d8 : CDivW c 8 := cdiv_small (by decide) (by decide)
  unfold lnode at q
  refine ss_cons (s_ifv (tv_w (wv_or (tv_eq (ev_v 1) ev_int) fun _ => wv_or1 (tv_eq (ev_mod (ev_v 0) ev_int (by decide)) ev_int))) (fun h => ?_) fun h => ss_nil ?_)
  · rw [Bool.or_eq_true, decide_eq_true_eq, decide_eq_true_eq] at h
    rw [if_pos h] at q
    refine ss_cons (s_setv 2 (ev_add ev_int (ev_mod (ev_div (ev_v 0) ev_int d8) ev_int (by decide))) ?_ sc__law_node.nd)
    exact ss_one (s_retv (ev_tup (ds := [.str "number", .int _, .int _]) (av_cons ev_str (av_cons (ev_add (ev_mulS (ev_v 2) (ev_sub (ev_mod (ev_div (ev_v 0) ev_int (cdiv_small (by decide) (by decide))) ev_int (by decide)) ev_int) (.inl ⟨by omega, by omega⟩)) ev_int) (av_cons (ev_v 2) av_nil)))) q)
  · rw [Bool.or_eq_false_iff, decide_eq_false_iff_not, decide_eq_false_iff_not] at h
    rw [if_neg (by omega)] at q
    have hm0 : 0 < m := by omega
    have dm : ∀ i : Int, CDivW i m := fun i => cdiv_small hm0 (by omega)
    refine ss_cons (s_ifv (tv_eq (ev_mod (ev_v 0) ev_int (by decide)) ev_int) (fun h1 => ?_) fun h1 => ss_nil ?_)
    · rw [if_pos (of_decide_eq_true h1)] at q
      exact ss_one (s_retv (ev_tup (ds := [.str "unknown", .int _]) (av_cons ev_str (av_cons (ev_mod (ev_div (ev_v 0) ev_int d8) ev_int (by decide)) av_nil))) q)
    · have h1 := of_decide_eq_false h1
      rw [if_neg h1] at q
      refine ss_cons (s_setv 3 (ev_mod (ev_div (ev_v 0) ev_int d8) (ev_v 1) hm0) ?_ sc__law_node.nd)
      refine ss_cons (s_ifv (tv_eq (ev_mod (ev_v 0) ev_int (by decide)) ev_int) (fun h2 => ?_) fun h2 => ss_nil ?_)
      · rw [if_pos (of_decide_eq_true h2)] at q
        exact ss_one (s_retv (ev_tup (ds := [.str "power", .int _, .int _]) (av_cons ev_str (av_cons (ev_v 3) (av_cons (ev_add ev_int (ev_mod (ev_div (ev_div (ev_v 0) ev_int d8) (ev_v 1) (dm _)) ev_int (by decide))) av_nil)))) q)
      · have h2 := of_decide_eq_false h2
        rw [if_neg h2] at q
        dsimp only at q
        refine ss_cons (s_setv 4 (ev_mod (ev_div (ev_div (ev_v 0) ev_int d8) (ev_v 1) (dm _)) (ev_v 1) hm0) ?_ sc__law_node.nd)
        have fin : ∀ o : Int, o = (if c % 8 = 7 then m - 1 else c / 8 / m % m) → SS (Rb P w K mg base N__law_node "_law_node" (defScope s__law_node) bd) ((defBody s__law_node).drop 6) [some (.int c), some (.int m), none, some (.int (c / 8 % m)), some (.int o)] bd.C { nx := fun _ C' => Q .non C', rt := Q } := fun o ho => by
          rw [← ho] at q
          have ix : ∀ (r : Int) (x : Str), c % 8 % 3 = r → atI [PyData.str "plus", .str "minus", .str "times"] r = some (.str x) → Q (.d (.tuple [.str x, .int (c / 8 % m), .int o])) bd.C → SS (Rb P w K mg base N__law_node "_law_node" (defScope s__law_node) bd) ((defBody s__law_node).drop 6) [some (.int c), some (.int m), none, some (.int (c / 8 % m)), some (.int o)] bd.C { nx := fun _ C' => Q .non C', rt := Q } := fun r x hr hx q => by
            exact ss_one (s_retv (ev_tup (ds := [.str x, .int _, .int _]) (av_cons (ev_ixL (ev_lst (ds := [.str "plus", .str "minus", .str "times"]) (av_cons ev_str (av_cons ev_str (av_cons ev_str av_nil)))) (ev_mod (ev_mod (ev_v 0) ev_int (by decide)) ev_int (by decide)) (by rw [hr]; exact hx)) (av_cons (ev_v 3) (av_cons (ev_v 4) av_nil)))) q)
          have r3 : c % 8 % 3 = 0 ∨ c % 8 % 3 = 1 ∨ c % 8 % 3 = 2 := by omega
          rcases r3 with r | r | r
          · rw [if_pos r] at q; exact ix 0 "plus" r rfl q
          · rw [if_neg (by omega), if_pos r] at q; exact ix 1 "minus" r rfl q
          · rw [if_neg (by omega), if_neg (by omega)] at q; exact ix 2 "times" r rfl q
        refine ss_cons (s_ifv (tv_eq (ev_mod (ev_v 0) ev_int (by decide)) ev_int) (fun h3 => ?_) fun h3 => ss_nil ?_)
        · exact ss_one (s_setv 4 (ev_sub (ev_v 1) ev_int) (fin _ (by rw [if_pos (of_decide_eq_true h3)])) sc__law_node.nd)
        · exact fin _ (by rw [if_neg (of_decide_eq_false h3)])
def sp_lweight : DSp := fun ss C Q _ => ∃ (x : Nd) (h : Addr) (hs : List Int), ss = [.d x.enc, .c h] ∧ C h = some (.lst (hs.map SV.int)) ∧ x.fits hs.length ∧ Q (.int (wt x hs)) C
theorem ok_lweight (T : Top w K mg) : Fc P w K mg base "_law_weight" 1 ["_law_node_here", "_law_heavy"] sp_lweight := by
  refine fc_of (N := N__law_weight) T.f__law_weight sc__law_weight (fun _ _ _ _ _ _ us hl => match us, hl with | [_, _], _ => rfl) (fun ss C Q E q => by obtain ⟨_, _, _, rfl, _⟩ := q; rfl) fun bd ss Q tk hr hsp => ?_
  obtain ⟨x, h, hs, rfl, hh, fit, q⟩ := hsp
  have t1 : ∀ (x : Nd) (s : Str) (r : List PyData), x.enc = .tuple (.str s :: r) → TV (Rb P w K mg base N__law_weight "_law_weight" (defScope s__law_weight) bd) (match (defBody s__law_weight).getD 0 (.Pass ⟨0, 0, 0, 0⟩) with | .If c _ _ _ => c | _ => .Name "x" ⟨0, 0, 0, 0⟩) [some (.d x.enc), some (.c h)] bd.C (decide (s = "number") || decide (s = "unknown")) := fun x s r e => by
    rw [e]
    exact tv_w (wv_or (tv_eqs (ev_ixT (ev_v 0) ev_int (atI_zero _ _)) ev_str) fun _ => wv_or1 (tv_eqs (ev_ixT (ev_v 0) ev_int (atI_zero _ _)) ev_str))
  cases x with
  | num t b => exact ss_cons (s_yes (t1 (.num t b) _ _ rfl) (by decide) (ss_one (s_retv ev_int q)))
  | unk k => exact ss_cons (s_yes (t1 (.unk k) _ _ rfl) (by decide) (ss_one (s_retv ev_int q)))
  | pow i n =>
    obtain ⟨h0, h1, h2, h3⟩ := fit
    refine ss_cons (s_no (t1 (.pow i n) _ _ rfl) (by decide) (ss_nil ?_))
    refine ss_cons (s_yes (tv_eqs (ev_ixT (ev_v 0) ev_int rfl) ev_str) (by decide) (ss_one (s_retv (ev_mulS (ev_ixT (ev_v 0) ev_int rfl) (ev_ixC (ev_v 1) (ev_ixT (ev_v 0) ev_int rfl) hh (atI_hs h0 h1)) (.inl ⟨by omega, by omega⟩)) q)))
  | plus i j =>
    obtain ⟨h0, h1, h2, h3⟩ := fit
    refine ss_cons (s_no (t1 (.plus i j) _ _ rfl) (by decide) (ss_nil ?_))
    refine ss_cons (s_no (tv_eqs (ev_ixT (ev_v 0) ev_int rfl) ev_str) (by decide) (ss_nil ?_))
    exact ss_one (s_retv (ev_add (ev_ixC (ev_v 1) (ev_ixT (ev_v 0) ev_int rfl) hh (atI_hs h0 h1)) (ev_ixC (ev_v 1) (ev_ixT (ev_v 0) ev_int rfl) hh (atI_hs h2 h3))) q)
  | minus i j =>
    obtain ⟨h0, h1, h2, h3⟩ := fit
    refine ss_cons (s_no (t1 (.minus i j) _ _ rfl) (by decide) (ss_nil ?_))
    refine ss_cons (s_no (tv_eqs (ev_ixT (ev_v 0) ev_int rfl) ev_str) (by decide) (ss_nil ?_))
    exact ss_one (s_retv (ev_add (ev_ixC (ev_v 1) (ev_ixT (ev_v 0) ev_int rfl) hh (atI_hs h0 h1)) (ev_ixC (ev_v 1) (ev_ixT (ev_v 0) ev_int rfl) hh (atI_hs h2 h3))) q)
  | times i j =>
    obtain ⟨h0, h1, h2, h3⟩ := fit
    refine ss_cons (s_no (t1 (.times i j) _ _ rfl) (by decide) (ss_nil ?_))
    refine ss_cons (s_no (tv_eqs (ev_ixT (ev_v 0) ev_int rfl) ev_str) (by decide) (ss_nil ?_))
    exact ss_one (s_retv (ev_add (ev_ixC (ev_v 1) (ev_ixT (ev_v 0) ev_int rfl) hh (atI_hs h0 h1)) (ev_ixC (ev_v 1) (ev_ixT (ev_v 0) ev_int rfl) hh (atI_hs h2 h3))) q)
/-- put, heard -/
def sp_lput (K : PySem.W.Frag) : DSp := fun ss C Q _ => ∃ p k h ns hs x, ss = [.c p, .d (Nd.enc x)] ∧ NetAt K C p k h ns hs ∧ x.fits hs.length ∧ ns.length ≤ 1000 ∧
  (x ∈ ns → Q (.d (.list [.int (ns.idxOf x)])) C) ∧ (x ∉ ns → (wt x hs > 16 ∨ ns.length ≥ 60) → Q (.d (.list [.str "refused"])) C) ∧ (x ∉ ns → wt x hs ≤ 16 → ns.length < 60 → Q (.d (.list [.int ns.length])) (netPut C k h ns hs x))
theorem ok_lput (T : Top w K mg) : Fc P w K mg base "_law_put" 3 ["_law_net", "_law_node_here"] (sp_lput K) := by
  refine fc_of (N := N__law_put) T.f__law_put sc__law_put (fun _ _ _ _ _ _ us hl => match us, hl with | [_, _], _ => rfl) (fun ss C Q E q => by obtain ⟨_, _, _, _, _, _, rfl, _⟩ := q; rfl) fun bd ss Q tk hr hsp => ?_
  obtain ⟨p, k, h, ns, hs, x, rfl, na, fit, hl, q1, q2, q3⟩ := hsp
  refine ss_cons (s_setv 2 (ev_lst (ds := [.str "refused"]) (av_cons ev_str av_nil)) ?_ sc__law_put.nd)
  refine ss_cons (s_try_as 3 (Cx := cl K "BoxError") ⟨rfl, by decide, .inl T.g_BoxError⟩ rfl rfl sc__law_put.nd tk (fun Γ e C' => Γ = [some (.c p), some (.d x.enc), some (.d (.list [.str "refused"])), none] ∧ e = ⟨cl K "TooMuch", none⟩ ∧ C' = bd.C ∧ x ∉ ns ∧ (wt x hs > 16 ∨ ns.length ≥ 60)) (fun pn xe F H tk2 po => ?_) fun Γ' e C' he => ?_)
  · refine ss_one (s_set 2 (ee_lst (ea_cons (ee_meth (ok_put T) hr tk2 (go (ev_v 0) ⟨p, _, rfl, na.hp, rfl, goA (av_cons (ev_v 1) av_nil) ⟨p, k, h, ns, hs, x, rfl, na, fit, hl, fun hin => ?_, fun hni hc => ?_, fun hni h1 h2 => ?_⟩⟩)))) sc__law_put.nd)
    · exact ea_nil ⟨[.int (ns.idxOf x)], rfl, len1 _, ss_one (s_retv (ev_v 2) (q1 hin))⟩
    · exact ⟨rfl, rfl, rfl, hni, hc⟩
    · exact ea_nil ⟨[.int ns.length], rfl, len1 _, ss_one (s_retv (ev_v 2) (q3 hni h1 h2))⟩
  · obtain ⟨rfl, rfl, rfl, hni, hc⟩ := he
    refine ⟨true, T.e_TooMuch_BoxError, (fun z => by cases z), fun _ => ⟨rfl, fun a oe pn hz hf => ?_⟩⟩
    refine ss_one (s_no (p := (!true) || false) (tv_w (wv_or (tv_not (tv_val (ev_isE rfl T.ec_TooMuch hz hf T.b_isinstance (ev_v 3) T.i_TooMuch_TooMuch (c := .ref (cl K "TooMuch")) (fun u r => r) (pe_glob rfl T.g_TooMuch rfl)))) fun _ => wv_or1 (tv_val (ev_isE rfl T.ec_TooMuch hz hf T.b_isinstance (ev_v 3) T.i_TooMuch_NoRow (c := .ref (cl K "NoRow")) (fun u r => r) (pe_glob rfl T.g_NoRow rfl))))) rfl (ss_nil ?_))
    exact ss_one (s_retv (ev_v 2) (q2 hni hc))
end
end Bx
namespace Bx
open PySem PySem.Spec PyProof.Rows L2 Dl
/-- the law's state: the net, the nodes due, their weights -/
structure St14 (K : PySem.W.Frag) (C : Cells) (p k h a b : Addr) (ns : List Nd) (hs : List Int) : Prop where
  net : NetAt K C p k h ns hs
  ha : C a = some (.lst ((ns.map Nd.enc).map SV.d))
  hb : C b = some (.lst (hs.map SV.int))
  ab : a ≠ b
  ak : a ≠ k
  ah : a ≠ h
  bk : b ≠ k
  bh : b ≠ h
/-- one step -/
def step14 (ns : List Nd) (hs : List Int) (x : Nd) : List Nd × List Int := if x ∈ ns ∨ wt x hs > 16 ∨ ns.length ≥ 60 then (ns, hs) else (ns ++ [x], hs ++ [wt x hs])
def sp_step (K : PySem.W.Frag) : DSp := fun ss C Q _ => ∃ p k h a b ns hs x, ss = [.c p, .c a, .c b, .d (Nd.enc x)] ∧ St14 K C p k h a b ns hs ∧ x.fits hs.length ∧ ns.length ≤ 60 ∧
  ∀ C', St14 K C' p k h a b (step14 ns hs x).1 (step14 ns hs x).2 → (∀ q, q ≠ k → q ≠ h → q ≠ a → q ≠ b → C' q = C q) → Q (.bl true) C'
section
variable {P : Program} {w : World} {K : PySem.W.Frag} {mg : Str → Option Value} {base : Heap}
theorem ok_step (T : Top w K mg) : Fc P w K mg base "_law_step" 4 ["_law_net", "_law_nodes", "_law_heavy", "_law_node_here"] (sp_step K) := by
  refine fc_of (N := N__law_step) T.f__law_step sc__law_step (fun _ _ _ _ _ _ us hl => match us, hl with | [_, _, _, _], _ => rfl) (fun ss C Q E q => by obtain ⟨_, _, _, _, _, _, _, _, rfl, _⟩ := q; rfl) fun bd ss Q tk hr hsp => ?_
  obtain ⟨p, k, h, a, b, ns, hs, x, rfl, st, fit, hl, q⟩ := hsp
  have na := st.net
  have shx := x.shaped
  have shl := Nd.shapedL ns
  have sh1 : ∀ i : Int, SeqAt.shaped (.list [.int i]) = true := fun i => (sh_list (n := 0) (shAll_cons (sh_int i) shAll_nil)).ok
  have e1 : ∀ i : Int, PyData.eqv (.list [.int i]) (.list [.int i]) = true := fun i => by rw [eqv_list, eqvAll_cons, eqvAll_nil, eqv_int, decide_eq_true rfl]; rfl
  refine ss_cons (s_set 4 (ee_call ((ok_lput T).mono (by decide)) hr tk (goA (av_cons (ev_v 0) (av_cons (ev_v 3) av_nil)) ⟨p, k, h, ns, hs, x, rfl, na, fit, by omega, fun hin => ?_, fun hni hc => ?_, fun hni h1 h2 => ?_⟩)) sc__law_step.nd)
  · -- it stands there
    refine ss_cons (s_yes (tv_inV (room65 hr) (ev_v 3) (ev_v 1) dv_d (dv_c st.ha) shx shl) (by rw [Nd.any]; exact decide_eq_true hin) ?_)
    refine ss_one (s_retv (ev_and (ev_call ((ok_whole T).mono (by decide)) hr tk (av_cons (ev_ixL (ev_v 4) ev_int (atI_zero _ _)) av_nil) fun Q q => ⟨_, rfl, q⟩) fun _ => ev_one (ev_eqV (room64 hr) (ev_v 4) (ev_lst (ds := [.int (ns.idxOf x)]) (av_cons (ev_index (room65 hr) (ev_v 1) (ev_v 3) dv_d (dv_c st.ha) shx shl (by rw [List.getElem?_map, idx_get hin]; rfl) (by rw [Nd.eqv]; simp) fun m z hm hz => idx_first hm hz) av_nil)) dv_d dv_d (sh1 _) (sh1 _))) ?_)
    rw [e1]
    refine q _ ?_ fun _ _ _ _ _ => rfl
    unfold step14
    rw [if_pos (.inl hin)]
    exact st
  · -- refused
    refine ss_cons (s_no (tv_inV (room65 hr) (ev_v 3) (ev_v 1) dv_d (dv_c st.ha) shx shl) (by rw [Nd.any]; exact decide_eq_false hni) (ss_nil ?_))
    refine ss_cons (s_yes (tv_w (wv_or (tv_gt (ev_call ((ok_lweight T).mono (by decide)) hr tk (av_cons (ev_v 3) (av_cons (ev_v 2) av_nil)) fun Q q => ⟨x, b, hs, rfl, st.hb, fit, q⟩) ev_int) fun _ => wv_or1 (tv_gt (ev_lenC T.b_len (ev_v 1) st.ha) ev_int))) ?_ ?_)
    · rw [Bool.or_eq_true, decide_eq_true_eq, decide_eq_true_eq]
      simp only [List.length_map]
      omega
    · have shs : SeqAt.shaped (.list [.str "refused"]) = true := (sh_list (n := 0) (shAll_cons (sh_str (by decide +kernel)) shAll_nil)).ok
      refine ss_one (s_retv (ev_eqV (room64 hr) (ev_v 4) (ev_lst (ds := [.str "refused"]) (av_cons ev_str av_nil)) dv_d dv_d shs shs) ?_)
      rw [show PyData.eqv (.list [.str "refused"]) (.list [.str "refused"]) = true by rw [eqv_list, eqvAll_cons, eqvAll_nil, eqv_str, decide_eq_true rfl]; rfl]
      refine q _ ?_ fun _ _ _ _ _ => rfl
      unfold step14
      rw [if_pos (.inr hc)]
      exact st
  · -- put
    have n2 := na.put x
    have ca : netPut bd.C k h ns hs x a = some (.lst ((ns.map Nd.enc).map SV.d)) := by unfold netPut; rw [cupd_ne st.ah, cupd_ne st.ak]; exact st.ha
    have cb : netPut bd.C k h ns hs x b = some (.lst (hs.map SV.int)) := by unfold netPut; rw [cupd_ne st.bh, cupd_ne st.bk]; exact st.hb
    refine ss_cons (s_no (tv_inV (room65 hr) (ev_v 3) (ev_v 1) dv_d (dv_c ca) shx shl) (by rw [Nd.any]; exact decide_eq_false hni) (ss_nil ?_))
    refine ss_cons (s_no (tv_w (wv_or (tv_gt (ev_call ((ok_lweight T).mono (by decide)) hr tk (av_cons (ev_v 3) (av_cons (ev_v 2) av_nil)) fun Q q => ⟨x, b, hs, rfl, cb, fit, q⟩) ev_int) fun _ => wv_or1 (tv_gt (ev_lenC T.b_len (ev_v 1) ca) ev_int))) ?_ (ss_nil ?_))
    · rw [Bool.or_eq_false_iff, decide_eq_false_iff_not, decide_eq_false_iff_not]
      simp only [List.length_map]
      omega
    refine ss_cons (s_expr (ee_append (go (ev_v 1) ⟨a, _, rfl, ca, go (ev_v 3) ⟨_, ca, by simp only [List.length_map]; exact Nat.lt_of_le_of_lt hl (by decide), ?_⟩⟩)))
    have e2 : ((ns.map Nd.enc).map SV.d ++ [SV.d x.enc]) = ((ns ++ [x]).map Nd.enc).map SV.d := by simp
    have e3 : (hs.map SV.int ++ [SV.int (wt x hs)]) = (hs ++ [wt x hs]).map SV.int := by simp
    rw [e2]
    have cb2 : cupd (netPut bd.C k h ns hs x) a (.lst (((ns ++ [x]).map Nd.enc).map SV.d)) b = some (.lst (hs.map SV.int)) := by rw [cupd_ne (Ne.symm st.ab)]; exact cb
    refine ss_cons (s_expr (ee_append (go (ev_v 2) ⟨b, _, rfl, cb2, go (ev_call ((ok_lweight T).mono (by decide)) hr tk (av_cons (ev_v 3) (av_cons (ev_v 2) av_nil)) fun Q q => ⟨x, b, hs, rfl, cb2, fit, q⟩) ⟨_, cb2, by simp only [List.length_map]; rw [← na.len]; exact Nat.lt_of_le_of_lt hl (by decide), ?_⟩⟩)))
    rw [e3]
    have ca3 : cupd (cupd (netPut bd.C k h ns hs x) a (.lst (((ns ++ [x]).map Nd.enc).map SV.d))) b (.lst ((hs ++ [wt x hs]).map SV.int)) a = some (.lst (((ns ++ [x]).map Nd.enc).map SV.d)) := by rw [cupd_ne st.ab, cupd_same]
    refine ss_one (s_retv (ev_and (ev_call ((ok_whole T).mono (by decide)) hr tk (av_cons (ev_ixL (ev_v 4) ev_int (atI_zero _ _)) av_nil) fun Q q => ⟨_, rfl, q⟩) fun _ => ev_one (ev_eqV (room64 hr) (ev_v 4) (ev_lst (ds := [.int _]) (av_cons (ev_sub (ev_lenC T.b_len (ev_v 1) ca3) ev_int) av_nil)) dv_d dv_d (sh1 _) (sh1 _))) ?_)
    have e4 : ((((ns ++ [x]).map Nd.enc).map SV.d).length : Int) - 1 = ns.length := by simp
    rw [e4, e1]
    refine q _ ?_ fun q' h1 h2 h3 h4 => ?_
    · unfold step14
      rw [if_neg (by rintro (z | z | z) <;> first | exact hni z | omega)]
      refine ⟨⟨?_, ?_, ?_, n2.len, n2.kh⟩, ca3, cupd_same, st.ab, st.ak, st.ah, st.bk, st.bh⟩
      · have hp1 : p ≠ a := fun e => by have := n2.hp; rw [e, ca] at this; cases this
        have hp2 : p ≠ b := fun e => by have := n2.hp; rw [e, cb] at this; cases this
        rw [cupd_ne hp2, cupd_ne hp1]; exact n2.hp
      · rw [cupd_ne (Ne.symm st.bk), cupd_ne (Ne.symm st.ak)]; exact n2.hk
      · rw [cupd_ne (Ne.symm st.bh), cupd_ne (Ne.symm st.ah)]; exact n2.hh
    · unfold netPut
      rw [cupd_ne h4, cupd_ne h3, cupd_ne h2, cupd_ne h1]
/-- the nodes as a list -/
def sp_listed (K : PySem.W.Frag) : DSp := fun ss C Q _ => ∃ p k h a ns hs, ss = [.c p, .c a] ∧ NetAt K C p k h ns hs ∧ C a = some (.lst ((ns.map Nd.enc).map SV.d)) ∧ ns.length ≤ 1000 ∧
  ∀ C', (∀ q c, C q = some c → C' q = some c) → Q (.bl true) C'
theorem enc_tup (x : Nd) : ∃ ds : List PyData, x.enc = .tuple ds ∧ ∃ i : Int, atI ds 1 = some (.int i) := by cases x <;> exact ⟨_, rfl, _, rfl⟩
theorem ok_listed (T : Top w K mg) : Fc P w K mg base "_law_listed" 3 ["_law_net", "_law_nodes"] (sp_listed K) := by
  refine fc_of (N := N__law_listed) T.f__law_listed sc__law_listed (fun _ _ _ _ _ _ us hl => match us, hl with | [_, _], _ => rfl) (fun ss C Q E q => by obtain ⟨_, _, _, _, _, _, rfl, _⟩ := q; rfl) fun bd ss Q tk hr hsp => ?_
  obtain ⟨p, k, h, a, ns, hs, rfl, na, ca, hl, q⟩ := hsp
  refine ss_cons (s_set 2 (ee_meth0 ((ok_nodes T).mono (by decide)) hr tk (go (ev_v 0) ⟨p, _, rfl, na.hp, rfl, ⟨p, k, h, ns, hs, rfl, na, fun f hf => ?_⟩⟩)) sc__law_listed.nd)
  have keep : ∀ {c : Cell} {r : Addr}, bd.C r = some c → ∀ d, cupd bd.C f d r = some c := fun {c r} hc d => by
    have : r ≠ f := fun e => by rw [e, hf] at hc; cases hc
    rw [cupd_ne this]; exact hc
  have cf : ∀ {d : Cell}, cupd bd.C f d f = some d := cupd_same
  refine ss_cons (s_no (tv_w (wv_or (tv_not (tv_val (ev_isTy (n := "list") (d := .list (ns.map Nd.enc)) T.b_isinstance T.b_list (by decide +kernel) (ev_v 2) (dv_c cf) kit_ll))) fun _ => wv_or1 (tv_ne (ev_lenC T.b_len (ev_v 2) cf) (ev_lenC T.b_len (ev_v 1) (keep ca _))))) (by simp) (ss_nil ?_))
  refine ss_cons (s_for (passes_of rfl) rfl (ei_zip T.b_zip (go (ev_v 2) (go (ev_v 1) ⟨ns.map Nd.enc, ns.map Nd.enc, dv_c cf, dv_c (keep ca _), fun i Γ' C' => C' = cupd bd.C f (.lst ((ns.map Nd.enc).map SV.d)) ∧ ∃ x y, Γ' = [some (.c p), some (.c a), some (.c f), x, y], ⟨rfl, none, none, rfl⟩, fun i Γ' C' hI => ?_, fun i Γ' C' hi hI => ?_, fun Γ' C' hI => ?_⟩))))
  · obtain ⟨rfl, _⟩ := hI
    exact ⟨dv_c cf, dv_c (keep ca _)⟩
  · obtain ⟨rfl, x, y, rfl⟩ := hI
    have hi' : i < ns.length := by simp only [List.length_map, Nat.min_self] at hi; exact hi
    simp only [gd_map Nd.enc ns i hi']
    refine gv_tup2 3 4 ?_ rfl sc__law_listed.nd
    obtain ⟨ds, hds, j, hj⟩ := enc_tup ns[i]
    have sh := ns[i].shaped
    have he : PyData.eqv ns[i].enc ns[i].enc = true := by rw [Nd.eqv]; simp
    refine ss_one (s_no (tv_w (wv_or (tv_not (tv_val (ev_isTy (n := "tuple") (d := ns[i].enc) T.b_isinstance T.b_tuple (by decide +kernel) (ev_v 3) dv_d (by rw [hds]; exact kit_tt)))) fun _ => wv_or (tv_not (tv_val (ev_call ((ok_whole T).mono (by decide)) hr tk (av_cons (ev_ixT (ds := ds) (by rw [← hds]; exact ev_v 3) ev_int hj) av_nil) fun Q q => ⟨_, rfl, q⟩))) fun _ => wv_or1 (tv_neV (room64 hr) (ev_v 3) (ev_v 4) dv_d dv_d sh sh))) (by rw [he]; rfl) (ss_nil ?_))
    exact ⟨rfl, _, _, rfl⟩
  · obtain ⟨rfl, x, y, rfl⟩ := hI
    refine ss_cons (s_expr (ee_append (go (ev_v 2) ⟨f, _, rfl, cf, go (ev_tup (ds := [.str "number", .int 1, .int 1]) (av_cons ev_str (av_cons ev_int (av_cons ev_int av_nil)))) ⟨_, cf, by simp only [List.length_map]; exact Nat.lt_of_le_of_lt hl (by decide), ?_⟩⟩)))
    rw [cupd_upd]
    refine ss_cons (s_asg (go (ev_tup (ds := [.str "number", .int 5, .int 7]) (av_cons ev_str (av_cons ev_int (av_cons ev_int av_nil)))) (gv_sub (go (ev_v 2) (go ev_int ⟨f, _, 0, 0, rfl, rfl, cf, ?_, ?_⟩)))))
    · unfold ixN
      rw [if_pos (by decide), if_pos (by simp)]
      rfl
    rw [cupd_upd]
    have na2 : NetAt K (cupd bd.C f (.lst ((((ns.map Nd.enc).map SV.d) ++ [SV.d (.tuple [.str "number", .int 1, .int 1])]).set 0 (SV.d (.tuple [.str "number", .int 5, .int 7]))))) p k h ns hs := ⟨keep na.hp _, keep na.hk _, keep na.hh _, na.len, na.kh⟩
    refine ss_one (s_ret (ee_eqV (room64 hr) (ee_meth0 ((ok_nodes T).mono (by decide)) hr tk (go (ev_v 0) ⟨p, _, rfl, na2.hp, rfl, ⟨p, k, h, ns, hs, rfl, na2, fun g hg => go (ev_v 1) ⟨.list (ns.map Nd.enc), .list (ns.map Nd.enc), dv_c cupd_same, dv_c ?_, Nd.shapedL ns, Nd.shapedL ns, ?_⟩⟩⟩))))
    · have : a ≠ g := fun e => by rw [← e, keep ca] at hg; cases hg
      rw [cupd_ne this]; exact keep ca _
    · rw [eqv_list, eqvAll_refl fun x => by rw [Nd.eqv]; simp]
      refine q _ fun r c hc => ?_
      have : r ≠ g := fun e => by rw [← e, keep hc] at hg; cases hg
      rw [cupd_ne this]; exact keep hc _
end
end Bx
namespace Bx
open PySem PySem.Spec PyProof.Rows L2 Dl
theorem fresh_ne {C : Cells} {q r : Addr} {c : Cell} (hq : C q = none) (hr : C r = some c) : q ≠ r := fun e => by rw [e, hr] at hq; cases hq
theorem cutL_map {α β : Type} (f : α → β) (xs : List α) (l u : Option Int) : cutL (xs.map f) l u = (cutL xs l u).map f := by
  unfold cutL
  rw [List.length_map, List.map_take, List.map_drop]
theorem NetAt.of {K : PySem.W.Frag} {C C' : Cells} {p k h : Addr} {ns : List Nd} {hs : List Int} (n : NetAt K C p k h ns hs) (e1 : C' p = C p) (e2 : C' k = C k) (e3 : C' h = C h) : NetAt K C' p k h ns hs := ⟨e1.trans n.hp, e2.trans n.hk, e3.trans n.hh, n.len, n.kh⟩
abbrev lawLevel : Nat := 10
structure Inv14 (K : PySem.W.Frag) (C : Cells) (p k h a b p2 k2 h2 : Addr) (ns : List Nd) (hs : List Int) : Prop where
  st : St14 K C p k h a b ns hs
  be : NetAt K C p2 k2 h2 [] []
  len : ns.length ≤ 60
  d : ∀ q ∈ [p2, k2, h2], q ≠ k ∧ q ≠ h ∧ q ≠ a ∧ q ≠ b
theorem Inv14.step {K : PySem.W.Frag} {C C' : Cells} {p k h a b p2 k2 h2 : Addr} {ns : List Nd} {hs : List Int} {x : Nd} (i : Inv14 K C p k h a b p2 k2 h2 ns hs) (s : St14 K C' p k h a b (step14 ns hs x).1 (step14 ns hs x).2) (e : ∀ q, q ≠ k → q ≠ h → q ≠ a → q ≠ b → C' q = C q) :
    Inv14 K C' p k h a b p2 k2 h2 (step14 ns hs x).1 (step14 ns hs x).2 := by
  have g : ∀ q ∈ [p2, k2, h2], C' q = C q := fun q hq => let ⟨h1, h2, h3, h4⟩ := i.d q hq; e q h1 h2 h3 h4
  refine ⟨s, i.be.of (g _ (by simp)) (g _ (by simp)) (g _ (by simp)), ?_, i.d⟩
  unfold step14
  have := i.len
  split
  · exact this
  · rename_i z
    have : ¬ ns.length ≥ 60 := fun y => z (.inr (.inr y))
    simp only [List.length_append, List.length_cons, List.length_nil]
    omega
theorem Inv14.mono {K : PySem.W.Frag} {C C' : Cells} {p k h a b p2 k2 h2 : Addr} {ns : List Nd} {hs : List Int} (i : Inv14 K C p k h a b p2 k2 h2 ns hs) (e : ∀ q c, C q = some c → C' q = some c) : Inv14 K C' p k h a b p2 k2 h2 ns hs :=
  ⟨⟨⟨e _ _ i.st.net.hp, e _ _ i.st.net.hk, e _ _ i.st.net.hh, i.st.net.len, i.st.net.kh⟩, e _ _ i.st.ha, e _ _ i.st.hb, i.st.ab, i.st.ak, i.st.ah, i.st.bk, i.st.bh⟩, ⟨e _ _ i.be.hp, e _ _ i.be.hk, e _ _ i.be.hh, i.be.len, i.be.kh⟩, i.len, i.d⟩
section
variable {P : Program} {w : World} {K : PySem.W.Frag} {mg : Str → Option Value} {base : Heap}
theorem ok_law (T : Top w K mg) {f : Addr} {fd : FuncData} (Fd : FunD K "law" "law" (defArgs s_law) (defBody s_law) (defScope s_law) [] [] f fd) : FnOk P w K mg base (L2.CX P w) lawLevel f fd ["_law_script"] (toSp K spLaw) := by
  refine fn_ok (N := N_law) (k := 9) Fd sc_law (fun ss C Q E q => by obtain ⟨_, rfl, _⟩ := q; rfl) fun bd ss Q tk hr hsp => ?_
  obtain ⟨ns0, rfl, hl0, q⟩ := hsp
  have mk := (ok_net_init (P := P) (base := base) T).mono (show 1 ≤ 8 by decide)
  have stp := (ok_step (P := P) (base := base) T).mono (show 4 ≤ 9 by decide)
  have cel := (ok_cell_at (P := P) (base := base) T).mono (show 1 ≤ 9 by decide)
  refine ss_cons (s_set 1 (ee_make0 mk hr fun p hp => ⟨p, rfl, cupd_same, fun k h hk hh kh kp hp' => ⟨rfl, ?_⟩⟩) sc_law.nd)
  have n1 := net_made (K := K) (C := cupd bd.C p (.ins (cl K "Net") [])) kh kp hp'
  generalize hC1 : cupd (cupd (cupd (cupd (cupd bd.C p (.ins (cl K "Net") [])) k (.lst [])) p (.ins (cl K "Net") [("kept", .c k)])) h (.lst [])) p (.ins (cl K "Net") [("kept", .c k), ("heavy", .c h)]) = C1 at n1
  refine ss_cons (s_set 2 (ee_make0 mk hr fun p2 hp2 => ⟨p2, rfl, cupd_same, fun k2 h2 hk2 hh2 kh2 kp2 hp2' => ⟨rfl, ?_⟩⟩) sc_law.nd)
  have n2 := net_made (K := K) (C := cupd C1 p2 (.ins (cl K "Net") [])) kh2 kp2 hp2'
  rw [cupd_ne kp2] at hk2
  rw [cupd_ne hp2'] at hh2
  have old : ∀ {r : Addr} {c : Cell}, C1 r = some c → cupd (cupd (cupd (cupd (cupd C1 p2 (.ins (cl K "Net") [])) k2 (.lst [])) p2 (.ins (cl K "Net") [("kept", .c k2)])) h2 (.lst [])) p2 (.ins (cl K "Net") [("kept", .c k2), ("heavy", .c h2)]) r = C1 r := fun {r c} hr => by
    have e1 := (fresh_ne hp2 hr).symm
    have e2 := (fresh_ne hk2 hr).symm
    have e3 := (fresh_ne hh2 hr).symm
    rw [cupd_ne e1, cupd_ne e3, cupd_ne e1, cupd_ne e2, cupd_ne e1]
  have n1' := n1.of (old n1.hp) (old n1.hk) (old n1.hh)
  have dk : ∀ q ∈ [p2, k2, h2], q ≠ k ∧ q ≠ h := fun q hq => by
    simp only [List.mem_cons, List.not_mem_nil, or_false] at hq
    rcases hq with rfl | rfl | rfl
    · exact ⟨fresh_ne hp2 n1.hk, fresh_ne hp2 n1.hh⟩
    · exact ⟨fresh_ne hk2 n1.hk, fresh_ne hk2 n1.hh⟩
    · exact ⟨fresh_ne hh2 n1.hk, fresh_ne hh2 n1.hh⟩
  generalize cupd (cupd (cupd (cupd (cupd C1 p2 (.ins (cl K "Net") [])) k2 (.lst [])) p2 (.ins (cl K "Net") [("kept", .c k2)])) h2 (.lst [])) p2 (.ins (cl K "Net") [("kept", .c k2), ("heavy", .c h2)]) = C2 at n1' n2
  refine ss_cons (s_set 3 (ee_lstC (ea_nil ⟨Nat.zero_le _, fun a ha => ?_⟩)) sc_law.nd)
  refine ss_cons (s_set 4 (ee_lstC (ea_nil ⟨Nat.zero_le _, fun b hb => ?_⟩)) sc_law.nd)
  have hba : b ≠ a := fun e => by rw [e, cupd_same] at hb; cases hb
  rw [cupd_ne hba] at hb
  have old2 : ∀ {r : Addr} {c : Cell}, C2 r = some c → cupd (cupd C2 a (.lst [])) b (.lst []) r = C2 r := fun {r c} hr => by rw [cupd_ne (fresh_ne hb hr).symm, cupd_ne (fresh_ne ha hr).symm]
  have i0 : Inv14 K (cupd (cupd C2 a (.lst [])) b (.lst [])) p k h a b p2 k2 h2 [] [] := by
    refine ⟨⟨n1'.of (old2 n1'.hp) (old2 n1'.hk) (old2 n1'.hh), by rw [cupd_ne (Ne.symm hba), cupd_same]; rfl, cupd_same, Ne.symm hba, fresh_ne ha n1'.hk, fresh_ne ha n1'.hh, fresh_ne hb n1'.hk, fresh_ne hb n1'.hh⟩, n2.of (old2 n2.hp) (old2 n2.hk) (old2 n2.hh), Nat.zero_le _, fun q hq => ?_⟩
    obtain ⟨h1, h3⟩ := dk q hq
    simp only [List.mem_cons, List.not_mem_nil, or_false] at hq
    rcases hq with rfl | rfl | rfl
    · exact ⟨h1, h3, (fresh_ne ha n2.hp).symm, (fresh_ne hb n2.hp).symm⟩
    · exact ⟨h1, h3, (fresh_ne ha n2.hk).symm, (fresh_ne hb n2.hk).symm⟩
    · exact ⟨h1, h3, (fresh_ne ha n2.hh).symm, (fresh_ne hb n2.hh).symm⟩
  generalize cupd (cupd C2 a (.lst [])) b (.lst []) = C3 at i0
  -- the end, from any state of the law
  have fin : ∀ (C : Cells) (ns : List Nd) (hs : List Int) (x5 x6 x7 x8 x9 : Option SV), Inv14 K C p k h a b p2 k2 h2 ns hs → SS (Rb P w K mg base N_law "law" (defScope s_law) bd) ((defBody s_law).drop 6) [some (.d (.list (ns0.map .int))), some (.c p), some (.c p2), some (.c a), some (.c b), x5, x6, x7, x8, x9] C { nx := fun _ C' => Q .non C', rt := Q } := fun C ns hs x5 x6 x7 x8 x9 i => by
    refine ss_cons (s_if (et_not (et_val (ee_call ((ok_listed T).mono (by decide)) hr tk (goA (av_cons (ev_v 1) (av_cons (ev_v 3) av_nil)) ⟨p, k, h, a, ns, hs, rfl, i.st.net, i.st.ha, by have := i.len; omega, fun C' hC' => ⟨true, rfl, (fun z => by cases z), fun _ => ss_nil ?_⟩⟩)))))
    have i' := i.mono hC'
    have eb : hs.map SV.int = (hs.map PyData.int).map SV.d := by rw [List.map_map]; rfl
    have hb' := i'.st.hb
    rw [eb] at hb'
    refine ss_cons (s_for (passes_of rfl) rfl (ei_enum T.b_enumerate (go (ev_v 4) ⟨hs.map .int, dv_c hb', fun j Γ' D => D = C' ∧ ∃ x7 x8 x9, Γ' = [some (.d (.list (ns0.map .int))), some (.c p), some (.c p2), some (.c a), some (.c b), x5, x6, x7, x8, x9], ⟨rfl, x7, x8, x9, rfl⟩, fun j Γ' D hI => ?_, fun j Γ' D hj hI => ?_, fun Γ' D hI => ?_⟩)))
    · obtain ⟨rfl, _⟩ := hI
      exact dv_c hb'
    · obtain ⟨rfl, x7, x8, x9, rfl⟩ := hI
      have hj' : j < hs.length := by simpa using hj
      simp only [gd_map PyData.int hs j hj']
      refine gv_tup2 7 8 ?_ rfl sc_law.nd
      refine ss_cons (s_set 9 (ee_meth ((ok_weight T).mono (by decide)) hr tk (go (ev_v 1) ⟨p, _, rfl, i'.st.net.hp, rfl, goA (av_cons (ev_v 7) av_nil) ⟨p, k, h, ns, hs, j, rfl, i'.st.net, by omega, by omega, ?_⟩⟩)) sc_law.nd)
      have eh : hs.getD (j : Int).toNat 0 = hs[j] := by rw [List.getD_eq_getElem?_getD, Int.toNat_natCast, List.getElem?_eq_getElem hj']; rfl
      rw [eh]
      refine ss_one (s_no (tv_w (wv_or (tv_not (tv_val (ev_call ((ok_whole T).mono (by decide)) hr tk (av_cons (ev_v 9) av_nil) fun Q q => ⟨_, rfl, q⟩))) fun _ => wv_or1 (tv_ne (ev_v 9) (ev_v 8)))) (by simp) (ss_nil ?_))
      exact ⟨rfl, _, _, _, rfl⟩
    · obtain ⟨rfl, x7, x8, x9, rfl⟩ := hI
      have shn : SeqAt.shaped (.list []) = true := (sh_list (n := 0) shAll_nil).ok
      refine ss_one (s_ret (ee_eqV (room64 hr) (ee_meth0 ((ok_nodes T).mono (by decide)) hr tk (go (ev_v 2) ⟨p2, _, rfl, i'.be.hp, rfl, ⟨p2, k2, h2, [], [], rfl, i'.be, fun g hg => go (ev_lst (ds := []) av_nil) ⟨.list [], .list [], dv_c (ds := []) cupd_same, dv_d, shn, shn, ?_⟩⟩⟩))))
      rw [eqv_list, eqvAll_nil]
      exact q _
  -- the cells' nodes
  have mid : ∀ (C : Cells) (ns : List Nd) (hs : List Int) (x5 : Option SV), Inv14 K C p k h a b p2 k2 h2 ns hs → SS (Rb P w K mg base N_law "law" (defScope s_law) bd) ((defBody s_law).drop 5) [some (.d (.list (ns0.map .int))), some (.c p), some (.c p2), some (.c a), some (.c b), x5, none, none, none, none] C { nx := fun _ C' => Q .non C', rt := Q } := fun C ns hs x5 i => by
    refine ss_cons (s_for (passes_of rfl) rfl (ei_lst (go (ev_slL (ev_v 0) dv_d (pv_some ev_int) (pv_some ev_int)) ⟨_, rfl, fun j Γ' D => ∃ ns hs x6, Γ' = [some (.d (.list (ns0.map .int))), some (.c p), some (.c p2), some (.c a), some (.c b), x5, x6, none, none, none] ∧ Inv14 K D p k h a b p2 k2 h2 ns hs, ⟨ns, hs, none, rfl, i⟩, fun j Γ' D hI => trivial, fun j Γ' D hj hI => ?_, fun Γ' D hI => ?_⟩)))
    · obtain ⟨ns, hs, x6, rfl, i⟩ := hI
      rw [cutL_map] at hj ⊢
      have hj' := hj
      rw [List.length_map] at hj'
      rw [gd_map PyData.int _ j hj']
      generalize (cutL ns0 (some 1) (some 61))[j] = c
      refine gv_name 6 ?_ sc_law.nd
      have hm := i.len
      have hc := Int.emod_nonneg c (show (10 : Int) ^ (9 : Int).toNat ≠ 0 by decide)
      refine ss_one (s_if (et_not (et_val (ee_call stp hr tk (goA (av_cons (ev_v 1) (av_cons (ev_v 3) (av_cons (ev_v 4) (av_cons (ev_call ((ok_lnode T).mono (by decide)) hr tk (av_cons (ev_mod (ev_v 6) (ev_pow ev_int ev_int ⟨by decide, by decide, by decide⟩) (by decide)) (av_cons (ev_lenC T.b_len (ev_v 3) i.st.ha) av_nil)) fun Q q => ⟨_, _, rfl, hc, by omega, by simp only [List.length_map]; omega, q⟩) av_nil)))) ⟨p, k, h, a, b, ns, hs, _, rfl, i.st, lnode_fits hc (by simp [i.st.net.len]), hm, fun C' s e => ⟨true, rfl, (fun z => by cases z), fun _ => ss_nil ?_⟩⟩)))))
      exact ⟨_, _, _, rfl, i.step s e⟩
    · obtain ⟨ns, hs, x6, rfl, i⟩ := hI
      exact fin D ns hs x5 x6 none none none i
  -- the first numbers
  refine ss_cons (s_ifv (tv_eq (ev_mod (ev_call cel hr tk (av_cons (ev_v 0) (av_cons ev_int av_nil)) fun Q q => ⟨ns0, 0, rfl, by decide, q⟩) ev_int (by decide)) ev_int) (fun _ => ?_) fun _ => ss_nil (mid C3 [] [] none i0))
  refine ss_one (s_for (passes_of rfl) rfl (ei_rng1 T.b_range (go (ev_add ev_int (ev_mod (ev_div (ev_call cel hr tk (av_cons (ev_v 0) (av_cons ev_int av_nil)) fun Q q => ⟨ns0, 0, rfl, by decide, q⟩) ev_int (cdiv_small (by decide) (by decide))) ev_int (by decide))) ⟨_, rfl, by omega, by omega, fun j Γ' D => ∃ ns hs x5, Γ' = [some (.d (.list (ns0.map .int))), some (.c p), some (.c p2), some (.c a), some (.c b), x5, none, none, none, none] ∧ Inv14 K D p k h a b p2 k2 h2 ns hs, ⟨[], [], none, rfl, i0⟩, fun j Γ' D hI => trivial, fun j Γ' D hj hI => ?_, fun Γ' D hI => ?_⟩)))
  · obtain ⟨ns, hs, x5, rfl, i⟩ := hI
    refine gv_name 5 ?_ sc_law.nd
    have hm := i.len
    refine ss_one (s_if (et_not (et_val (ee_call stp hr tk (goA (av_cons (ev_v 1) (av_cons (ev_v 3) (av_cons (ev_v 4) (av_cons (ev_tup (ds := [.str "number", .int _, .int 1]) (av_cons ev_str (av_cons (ev_sub (ev_v 5) ev_int) (av_cons ev_int av_nil)))) av_nil)))) ⟨p, k, h, a, b, ns, hs, .num _ 1, rfl, i.st, trivial, hm, fun C' s e => ⟨true, rfl, (fun z => by cases z), fun _ => ss_nil ?_⟩⟩)))))
    exact ⟨_, _, _, rfl, i.step s e⟩
  · obtain ⟨ns, hs, x5, rfl, i⟩ := hI
    exact mid D ns hs x5 i
end
end Bx
namespace Bx
open PySem PySem.Spec PyProof.Rows L2 Dl
def fn0 : List He.DefD := [⟨("weight_of", none), "weight_of", "weight_of", defArgs s_weight_of, defBody s_weight_of, defScope s_weight_of, [], []⟩, ⟨("_law_cell_at", none), "_law_cell_at", "_law_cell_at", defArgs s__law_cell_at, defBody s__law_cell_at, defScope s__law_cell_at, [], []⟩, ⟨("_law_whole", none), "_law_whole", "_law_whole", defArgs s__law_whole, defBody s__law_whole, defScope s__law_whole, [], []⟩, ⟨("_law_node", none), "_law_node", "_law_node", defArgs s__law_node, defBody s__law_node, defScope s__law_node, [], []⟩, ⟨("_law_weight", none), "_law_weight", "_law_weight", defArgs s__law_weight, defBody s__law_weight, defScope s__law_weight, [], []⟩, ⟨("_law_put", none), "_law_put", "_law_put", defArgs s__law_put, defBody s__law_put, defScope s__law_put, [], []⟩, ⟨("_law_step", none), "_law_step", "_law_step", defArgs s__law_step, defBody s__law_step, defScope s__law_step, [], []⟩, ⟨("_law_listed", none), "_law_listed", "_law_listed", defArgs s__law_listed, defBody s__law_listed, defScope s__law_listed, [], []⟩, ⟨("law", none), "law", "law", defArgs s_law, defBody s_law, defScope s_law, [], []⟩, ⟨("Net", some "__init__"), "__init__", "Net.__init__", defArgs s_Net___init__, defBody s_Net___init__, defScope s_Net___init__, [], []⟩, ⟨("Net", some "put"), "put", "Net.put", defArgs s_Net_put, defBody s_Net_put, defScope s_Net_put, [], []⟩, ⟨("Net", some "nodes"), "nodes", "Net.nodes", defArgs s_Net_nodes, defBody s_Net_nodes, defScope s_Net_nodes, [], []⟩, ⟨("Net", some "weight"), "weight", "Net.weight", defArgs s_Net_weight, defBody s_Net_weight, defScope s_Net_weight, [], []⟩]
def fn : List He.DefD := fn0
def fa0 : List He.Fa := [.glo "weight_of", .glo "_law_cell_at", .glo "_law_whole", .glo "_law_node", .glo "_law_weight", .glo "_law_put", .glo "_law_step", .glo "_law_listed", .glo "law", .cls "Net", .mkr "Net", .glo "Net", .meth "Net" "put", .meth "Net" "nodes", .meth "Net" "weight", .noat "Net" "heavy", .noat "Net" "kept", .exc "TooMuch", .glo "TooMuch", .glo "BoxError", .glo "NoRow", .glo "TooMuch", .exm "TooMuch" "BoxError" true, .int "HEAVIEST" 16, .int "MOST" 60, .free "bool", .free "enumerate", .free "int", .free "isinstance", .free "len"]
def fa1 : List He.Fa := [.free "list", .free "range", .free "tuple", .free "zip", .free "ValueError"]
def fa : List He.Fa := fa0 ++ fa1
def exl0 : List (PySem.W.Frag → Bool) := [fun K => excCB K "TooMuch", fun K => decide (PySem.W.kitOne K (.ref (He.ga K "TooMuch")) (.ref (He.ga K "NoRow")) = some false), fun K => decide (PySem.W.kitOne K (.ref (He.ga K "TooMuch")) (.ref (He.ga K "TooMuch")) = some true)]
def exl : List (PySem.W.Frag → Bool) := exl0
def loose0 : List PySem.Str := ["_wall", "BoxError", "NoRow", "TooMuch", "HEAVIEST", "MOST", "Net", "weight_of", "_law_cell_at", "_law_whole", "_law_node", "_law_weight", "_law_put", "_law_step", "_law_listed"]
def loose : List PySem.Str := loose0
def tabs : List He.Tab := []
abbrev default_ : He.DefD := ⟨("", none), "", "", defArgs (topS 0), defBody (topS 0), defScope (topS 0), [], []⟩
abbrev default_t : He.Tab := (fun _ => 0, [])
def ex (K : PySem.W.Frag) : Bool := exl.all fun f => f K
theorem exb_at {K : PySem.W.Frag} (h : ex K = true) (i : Nat) {f : PySem.W.Frag → Bool} (e : exl[i]? = some f) : f K = true := List.all_eq_true.mp h f (List.mem_of_getElem? e)
abbrev Rw : PySem.W.OpenRow := PySem.W.OpenLaw.row PySem.Challenge.rw_boxnarrow_k14_nodes_put
abbrev hk : PySem.W.Hook := He.hookX 6 fa fn tabs [] ex
def ob (s : PySem.W.SharedT) : He.AlX := He.obsX 6 fa fn tabs [] ex (HandSHeadRun.getT s)
theorem ob_eq (s : PySem.W.SharedT) : ob s = hk.obs s.abs := He.obsX_eq (HandSHeadRun.getT_eq s)
theorem run (w : World) : HandSHeadRun.RunEq Rw (PySem.W.view Rw.prog [18]) hk ob 20000 loose w := by
  intro os
  kernel_rfl
theorem top_of {w : World} {K : PySem.W.Frag} {h : Heap} {mg : Str → Option Value} (X : K.In h) (G : h.Ns mainGlobals mg) (c : He.SaysX fa fn tabs [] ex w h K) : Top w K mg where
  f_weight_of := (by obtain ⟨fd, F⟩ := c.t.d.def_ 0 (d := fn.getD 0 default_) rfl; exact ⟨_, fd, He.glo_ok X G (c.t.d.fact 0 (f := .glo "weight_of") rfl), F⟩)
  f__law_cell_at := (by obtain ⟨fd, F⟩ := c.t.d.def_ 1 (d := fn.getD 1 default_) rfl; exact ⟨_, fd, He.glo_ok X G (c.t.d.fact 1 (f := .glo "_law_cell_at") rfl), F⟩)
  f__law_whole := (by obtain ⟨fd, F⟩ := c.t.d.def_ 2 (d := fn.getD 2 default_) rfl; exact ⟨_, fd, He.glo_ok X G (c.t.d.fact 2 (f := .glo "_law_whole") rfl), F⟩)
  f__law_node := (by obtain ⟨fd, F⟩ := c.t.d.def_ 3 (d := fn.getD 3 default_) rfl; exact ⟨_, fd, He.glo_ok X G (c.t.d.fact 3 (f := .glo "_law_node") rfl), F⟩)
  f__law_weight := (by obtain ⟨fd, F⟩ := c.t.d.def_ 4 (d := fn.getD 4 default_) rfl; exact ⟨_, fd, He.glo_ok X G (c.t.d.fact 4 (f := .glo "_law_weight") rfl), F⟩)
  f__law_put := (by obtain ⟨fd, F⟩ := c.t.d.def_ 5 (d := fn.getD 5 default_) rfl; exact ⟨_, fd, He.glo_ok X G (c.t.d.fact 5 (f := .glo "_law_put") rfl), F⟩)
  f__law_step := (by obtain ⟨fd, F⟩ := c.t.d.def_ 6 (d := fn.getD 6 default_) rfl; exact ⟨_, fd, He.glo_ok X G (c.t.d.fact 6 (f := .glo "_law_step") rfl), F⟩)
  f__law_listed := (by obtain ⟨fd, F⟩ := c.t.d.def_ 7 (d := fn.getD 7 default_) rfl; exact ⟨_, fd, He.glo_ok X G (c.t.d.fact 7 (f := .glo "_law_listed") rfl), F⟩)
  f_law := (by obtain ⟨fd, F⟩ := c.t.d.def_ 8 (d := fn.getD 8 default_) rfl; exact ⟨_, fd, He.glo_ok X G (c.t.d.fact 8 (f := .glo "law") rfl), F⟩)
  k_Net := (by obtain ⟨fd, F⟩ := c.t.d.def_ 9 (d := fn.getD 9 default_) rfl; exact ⟨_, fd, He.glo_ok X G (c.t.d.fact 11 (f := .glo "Net") rfl), He.mkr_ok (c.t.d.fact 10 (f := .mkr "Net") rfl), F⟩)
  m_Net_put := (by obtain ⟨fd, F⟩ := c.t.d.def_ 10 (d := fn.getD 10 default_) rfl; exact ⟨_, fd, He.cls_ok (c.t.d.fact 9 (f := .cls "Net") rfl), He.meth_ok (c.t.d.fact 12 (f := .meth "Net" "put") rfl), F⟩)
  m_Net_nodes := (by obtain ⟨fd, F⟩ := c.t.d.def_ 11 (d := fn.getD 11 default_) rfl; exact ⟨_, fd, He.cls_ok (c.t.d.fact 9 (f := .cls "Net") rfl), He.meth_ok (c.t.d.fact 13 (f := .meth "Net" "nodes") rfl), F⟩)
  m_Net_weight := (by obtain ⟨fd, F⟩ := c.t.d.def_ 12 (d := fn.getD 12 default_) rfl; exact ⟨_, fd, He.cls_ok (c.t.d.fact 9 (f := .cls "Net") rfl), He.meth_ok (c.t.d.fact 14 (f := .meth "Net" "weight") rfl), F⟩)
  c_Net := He.cls_ok (c.t.d.fact 9 (f := .cls "Net") rfl)
  n_Net_heavy := He.noat_ok (c.t.d.fact 15 (f := .noat "Net" "heavy") rfl)
  n_Net_kept := He.noat_ok (c.t.d.fact 16 (f := .noat "Net" "kept") rfl)
  x_TooMuch := (by obtain ⟨h1, h2, h3, h4⟩ := He.exc_ok (c.t.d.fact 17 (f := .exc "TooMuch") rfl); exact ⟨He.glo_ok X G (c.t.d.fact 18 (f := .glo "TooMuch") rfl), h1, h2, h3, h4⟩)
  g_BoxError := He.glo_ok X G (c.t.d.fact 19 (f := .glo "BoxError") rfl)
  g_NoRow := He.glo_ok X G (c.t.d.fact 20 (f := .glo "NoRow") rfl)
  g_TooMuch := He.glo_ok X G (c.t.d.fact 21 (f := .glo "TooMuch") rfl)
  e_TooMuch_BoxError := He.exm_ok (c.t.d.fact 22 (f := .exm "TooMuch" "BoxError" true) rfl)
  ec_TooMuch := excCB_ok (exb_at c.more 0 (f := fun K => excCB K "TooMuch") rfl)
  i_TooMuch_NoRow := of_decide_eq_true (exb_at c.more 1 (f := fun K => decide (PySem.W.kitOne K (.ref (He.ga K "TooMuch")) (.ref (He.ga K "NoRow")) = some false)) rfl)
  i_TooMuch_TooMuch := of_decide_eq_true (exb_at c.more 2 (f := fun K => decide (PySem.W.kitOne K (.ref (He.ga K "TooMuch")) (.ref (He.ga K "TooMuch")) = some true)) rfl)
  v_HEAVIEST := He.int_ok X G (c.t.d.fact 23 (f := .int "HEAVIEST" 16) rfl)
  v_MOST := He.int_ok X G (c.t.d.fact 24 (f := .int "MOST" 60) rfl)
  b_bool := He.free_ok X G (c.t.d.fact 25 (f := .free "bool") rfl)
  b_enumerate := He.free_ok X G (c.t.d.fact 26 (f := .free "enumerate") rfl)
  b_int := He.free_ok X G (c.t.d.fact 27 (f := .free "int") rfl)
  b_isinstance := He.free_ok X G (c.t.d.fact 28 (f := .free "isinstance") rfl)
  b_len := He.free_ok X G (c.t.d.fact 29 (f := .free "len") rfl)
  b_list := He.free_ok X G (c.t.d.fact 30 (f := .free "list") rfl)
  b_range := He.free_ok X G (c.t.d.fact 31 (f := .free "range") rfl)
  b_tuple := He.free_ok X G (c.t.d.fact 32 (f := .free "tuple") rfl)
  b_zip := He.free_ok X G (c.t.d.fact 33 (f := .free "zip") rfl)
  b_ValueError := He.free_ok X G (c.t.d.fact 34 (f := .free "ValueError") rfl)
end Bx
open PySem PySem.W PySem.Calls PyProof.Rows
set_option maxHeartbeats 0 in
theorem PySem.Challenge.cw_boxnarrow_k14_nodes_put_holds : PySem.Challenge.rw_boxnarrow_k14_nodes_put.Holds := by
  w_on; o_law
  refine HandSHeadRun.head_any (r := OpenLaw.row PySem.Challenge.rw_boxnarrow_k14_nodes_put) (q := view (OpenLaw.row PySem.Challenge.rw_boxnarrow_k14_nodes_put).prog [18]) (H := Bx.hk) (ob := Bx.ob) (M := 20000) (loose := Bx.loose) (d := HandSHeadRun.topDef (OpenLaw.row PySem.Challenge.rw_boxnarrow_k14_nodes_put).prog 18) (kwd := []) Bx.ob_eq
    (by kernel_rfl) (fun s => by kernel_rfl) Bx.run (by kernel_rfl) (by kernel_rfl) (by kernel_rfl) (by rfl) (by first | assumption | decide +kernel) (by decide +kernel) ⟨rfl, rfl, rfl, rfl, rfl, by decide +kernel⟩ ?hw ?hc
  case hw => w_witness2
  case hc =>
    refine Dl.walk_end (l := PySem.Challenge.rw_boxnarrow_k14_nodes_put) (k := Bx.lawLevel) (x := "_law_script") rfl (by decide) ⟨rfl, by decide, by decide⟩ ?F
    intro w mg fa h Y G hmg0
    obtain ⟨K, KX, c⟩ := Y
    have hmg : mg ("law" : PySem.Str) = some (.ref fa) := by
      have e : (HandSHeadRun.topDef (OpenLaw.row PySem.Challenge.rw_boxnarrow_k14_nodes_put).prog 18).name = ("law" : PySem.Str) := by kernel_rfl
      rw [← e]
      exact hmg0
    have T := Bx.top_of KX G c
    obtain ⟨f, fd, hm, Fd⟩ := T.f_law
    rw [hmg] at hm
    cases hm
    have hb := L2.FunD.bindsA (ps := ["_law_script"]) Fd fun _ _ _ _ _ _ us hl => match us, hl with | [_], _ => rfl
    exact ⟨K, fd, KX, fun s u => hb s [u] rfl, fun base _ _ => Bx.ok_law T Fd⟩
