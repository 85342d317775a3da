import PyProof.Rows.All
import Wide.All
import OpenK.AllK
import Wide.FinOn
import HandS.ForMost
import HandS.TupAny
import HandS.Wide
import HandS.Deep
import HandS.IsInst
import HandS.Conv
import HandS.Style
import HandS.Zip
import HandS.Rev
import HandS.Codes
import HandS.ForExc
import HandS.CallSlots
import HandS.Defaults
import HandS.TupMul
import HandS.Zip0
import HandS.ListItems
import HandS.EndBits
import KE.DataEq
import KE.KTupSum
import KE.KDictZip
import PySem.Challenge.RW_fairbyheads_k17_vectors
set_option Elab.async false
set_option linter.all false
set_option maxRecDepth 100000
namespace Mir
open PySem PySem.Spec L2
abbrev St := L2.St

/-! ### the mirror's values and states -/
inductive MV where
  | non | bl (b : Bool) | int (i : Int) | str (x : Str)
  | tup (xs : List MV) | ro (xs : List MV) | ext (xs : List MV) | lst (xs : List MV) | dct (ks vs : List MV) | tupo (xs : List MV)
  | ref (n : Nat) | sl (i : Nat) | exn (c : Str) (ns : List Str) (vs : List MV) | ty (n : String)
inductive MO where
  | lst (xs : List MV) | dct (ks vs : List MV) | ins (c : Str) (ns : List Str) (vs : List MV)
structure Sm where
  σ : List (Option MV)
  h : List MO
  pin : List Nat
structure MX where
  c : Str
  ns : List Str
  vs : List MV
inductive Res (α : Type) where
  | ok (a : α) (s : Sm) | exc (e : MX) (s : Sm) | stuck
abbrev M (α : Type) := Sm → Res α
inductive Out where
  | nx (s : Sm) | rt (v : MV) (s : Sm) | bk (s : Sm) | ct (s : Sm) | exc (e : MX) (s : Sm) | stuck
abbrev MS := Sm → Out

def mPure {α : Type} (a : α) : M α := fun s => .ok a s
def mBind {α β : Type} (m : M α) (f : α → M β) : M β := fun s => match m s with
  | .ok a s1 => f a s1
  | .exc e s1 => .exc e s1
  | .stuck => .stuck

/-! ### the ties to the layer's heap -/
inductive Tag where
  | heap (k : Nat) | slot (i : Nat) | fro
structure Cfg where
  ι : Nat → Addr
  own : Addr → Option Tag
  H : Hp
def SqF (K : PySem.W.Frag) (c : Cfg) (a : Addr) (vs : List V) : Prop :=
  (∃ o, c.H a = some (.frz o (.lst vs))) ∨ ∀ H, SqL K H a vs
theorem SqF.sq {K : PySem.W.Frag} {c : Cfg} {a : Addr} {vs : List V} (h : SqF K c a vs) : SqL K c.H a vs := h.elim (fun ⟨o, e⟩ => .inl (.inr ⟨o, e⟩)) fun e => e _

mutual
/-- mv is told of v, fp: the addresses of the lists that it owns -/
inductive RO (K : PySem.W.Frag) (c : Cfg) (n : Nat) : MV → V → List Addr → Prop
  | non : RO K c n .non .non []
  | bl {b : Bool} : RO K c n (.bl b) (.bl b) []
  | int {i : Int} : RO K c n (.int i) (.int i) []
  | str {x : Str} : RO K c n (.str x) (.str x) []
  | ty {x : String} : RO K c n (.ty x) (.ty x) []
  | ref {k : Nat} : k < n → RO K c n (.ref k) (.ref (c.ι k)) []
  | tup {xs : List MV} {a : Addr} {vs : List V} : SqT K c.H a vs → ROs K c n xs vs [] → RO K c n (.tup xs) (.ref a) []
  | tupo {xs : List MV} {a : Addr} {vs : List V} {fp : List Addr} : SqT K c.H a vs → ROs K c n xs vs fp → RO K c n (.tupo xs) (.ref a) fp
  | ext {xs : List MV} {a : Addr} {vs : List V} : SqF K c a vs → ROs K c n xs vs [] → RO K c n (.ext xs) (.ref a) []
  | ro {xs : List MV} {a : Addr} {vs : List V} : c.H a = some (.lst vs) → c.own a = some .fro → ROs K c n xs vs [] → RO K c n (.ro xs) (.ref a) []
  | lst {xs : List MV} {a : Addr} {vs : List V} : c.H a = some (.lst vs) → ROs K c n xs vs [] → RO K c n (.lst xs) (.ref a) [a]
inductive ROs (K : PySem.W.Frag) (c : Cfg) (n : Nat) : List MV → List V → List Addr → Prop
  | nil : ROs K c n [] [] []
  | cons {x : MV} {v : V} {xs : List MV} {vs : List V} {f g : List Addr} : RO K c n x v f → ROs K c n xs vs g → ROs K c n (x :: xs) (v :: vs) (f ++ g)
end

/-- an expression's value: told, or the handle of a slot -/
inductive RX (K : PySem.W.Frag) (c : Cfg) (n : Nat) (σ : St) : MV → V → List Addr → Prop
  | val {x : MV} {v : V} {fp : List Addr} : RO K c n x v fp → RX K c n σ x v fp
  | sl {i : Nat} {v : V} : σ[i]? = some (some v) → RX K c n σ (.sl i) v []
inductive RXs (K : PySem.W.Frag) (c : Cfg) (n : Nat) (σ : St) : List MV → List V → List Addr → Prop
  | nil : RXs K c n σ [] [] []
  | cons {x : MV} {v : V} {xs : List MV} {vs : List V} {f g : List Addr} : RX K c n σ x v f → RXs K c n σ xs vs g → RXs K c n σ (x :: xs) (v :: vs) (f ++ g)

def MutOk (c : Cfg) : Prop := ∀ a t, c.own a = some t → Mut (c.H a)
structure Keep (c : Cfg) (n : Nat) (c' : Cfg) (n' : Nat) : Prop where
  le : n ≤ n'
  ι : ∀ k, k < n → c'.ι k = c.ι k
  un : ∀ a o, c.H a = some o → c.own a = none → c'.H a = some o ∧ c'.own a = none
  fro : ∀ a o, c.H a = some o → c.own a = some .fro → c'.H a = some o ∧ c'.own a = some .fro
theorem Keep.refl {c : Cfg} {n : Nat} : Keep c n c n := ⟨Nat.le_refl _, fun _ _ => rfl, fun _ _ h t => ⟨h, t⟩, fun _ _ h t => ⟨h, t⟩⟩
theorem Keep.trans {c c1 c2 : Cfg} {n n1 n2 : Nat} (a : Keep c n c1 n1) (b : Keep c1 n1 c2 n2) : Keep c n c2 n2 :=
  ⟨Nat.le_trans a.le b.le, fun k h => (b.ι k (Nat.lt_of_lt_of_le h a.le)).trans (a.ι k h), fun x o h t => let ⟨p, q⟩ := a.un x o h t; b.un x o p q, fun x o h t => let ⟨p, q⟩ := a.fro x o h t; b.fro x o p q⟩
theorem MutOk.none {c : Cfg} (m : MutOk c) {a : Addr} {o : HO} (h : c.H a = some o) (n : ¬ Mut (some o)) : c.own a = none := by
  cases e : c.own a with
  | none => rfl
  | some t => exact absurd (h ▸ m a t e) n

section
variable {K : PySem.W.Frag} {c c' : Cfg} {n n' : Nat}
theorem SqT.keep {a : Addr} {vs : List V} (h : SqT K c.H a vs) (m : MutOk c) (k : Keep c n c' n') : SqT K c'.H a vs := by
  rcases h with (h | ⟨o, h⟩) | h
  · exact .inl (.inl (k.un _ _ h (m.none h fun z => z)).1)
  · exact .inl (.inr ⟨o, (k.un _ _ h (m.none h fun z => z)).1⟩)
  · exact .inr h
theorem SqF.keep {a : Addr} {vs : List V} (h : SqF K c a vs) (m : MutOk c) (k : Keep c n c' n') : SqF K c' a vs := by
  rcases h with ⟨o, h⟩ | h
  · exact .inl ⟨o, (k.un _ _ h (m.none h fun z => z)).1⟩
  · exact .inr h
mutual
theorem RO.keep (m : MutOk c) (k : Keep c n c' n') : ∀ {x : MV} {v : V} {fp : List Addr}, RO K c n x v fp → (∀ a ∈ fp, c'.H a = c.H a) → RO K c' n' x v fp
  | _, _, _, .non, _ => .non
  | _, _, _, .bl, _ => .bl
  | _, _, _, .int, _ => .int
  | _, _, _, .str, _ => .str
  | _, _, _, .ty, _ => .ty
  | _, _, _, .ref h, _ => by
    rw [← k.ι _ h]
    exact .ref (Nat.lt_of_lt_of_le h k.le)
  | _, _, _, .tup h r, f => .tup (SqT.keep h m k) (ROs.keep m k r f)
  | _, _, _, .tupo h r, f => .tupo (SqT.keep h m k) (ROs.keep m k r f)
  | _, _, _, .ext h r, f => .ext (h.keep m k) (ROs.keep m k r fun _ z => nomatch z)
  | _, _, _, .ro h t r, f => .ro (k.fro _ _ h t).1 (k.fro _ _ h t).2 (ROs.keep m k r fun _ z => nomatch z)
  | _, _, _, .lst h r, f => .lst ((f _ (List.mem_singleton.mpr rfl)).trans h) (ROs.keep m k r fun _ z => nomatch z)
theorem ROs.keep (m : MutOk c) (k : Keep c n c' n') : ∀ {xs : List MV} {vs : List V} {fp : List Addr}, ROs K c n xs vs fp → (∀ a ∈ fp, c'.H a = c.H a) → ROs K c' n' xs vs fp
  | _, _, _, .nil, _ => .nil
  | _, _, _, .cons r t, f => .cons (RO.keep m k r fun a z => f a (List.mem_append_left _ z)) (ROs.keep m k t fun a z => f a (List.mem_append_right _ z))
end
mutual
theorem RO.at : ∀ {x : MV} {v : V} {fp : List Addr}, RO K c n x v fp → ∀ a ∈ fp, ∃ vs, c.H a = some (.lst vs)
  | _, _, _, .non, _, z => nomatch z
  | _, _, _, .bl, _, z => nomatch z
  | _, _, _, .int, _, z => nomatch z
  | _, _, _, .str, _, z => nomatch z
  | _, _, _, .ty, _, z => nomatch z
  | _, _, _, .ref _, _, z => nomatch z
  | _, _, _, .tup _ r, _, z => nomatch z
  | _, _, _, .tupo _ r, a, z => ROs.at r a z
  | _, _, _, .ext _ _, _, z => nomatch z
  | _, _, _, .ro _ _ _, _, z => nomatch z
  | _, _, _, .lst h _, a, z => by
    have e := List.mem_singleton.mp z
    subst e
    exact ⟨_, h⟩
theorem ROs.at : ∀ {xs : List MV} {vs : List V} {fp : List Addr}, ROs K c n xs vs fp → ∀ a ∈ fp, ∃ vs, c.H a = some (.lst vs)
  | _, _, _, .nil, _, z => nomatch z
  | _, _, _, .cons r t, a, z => (List.mem_append.mp z).elim (RO.at r a) (ROs.at t a)
end
theorem ROs.length : ∀ {xs : List MV} {vs : List V} {fp : List Addr}, ROs K c n xs vs fp → xs.length = vs.length
  | _, _, _, .nil => rfl
  | _, _, _, .cons _ t => congrArg (· + 1) (ROs.length t)
end

/-- what a heap object is told of -/
inductive ROb (K : PySem.W.Frag) (c : Cfg) (n : Nat) : MO → Addr → Prop
  | lst {xs : List MV} {a : Addr} {vs : List V} : c.H a = some (.lst vs) → ROs K c n xs vs [] → ROb K c n (.lst xs) a

structure Rel (K : PySem.W.Frag) (c : Cfg) (σ : St) (p : List (Nat × V)) (s : Sm) : Prop where
  len : σ.length = s.σ.length
  slot : ∀ i mv, s.σ[i]? = some (some mv) → ∃ v fp, σ[i]? = some (some v) ∧ RO K c s.h.length mv v fp ∧ fp.Nodup ∧ ∀ a ∈ fp, c.own a = some (.slot i)
  heap : ∀ k o, s.h[k]? = some o → c.own (c.ι k) = some (.heap k) ∧ ROb K c s.h.length o (c.ι k)
  mok : MutOk c
  pinl : p.map (·.1) = s.pin
  pinv : ∀ j v, (j, v) ∈ p → σ[j]? = some (some v)

/-- temporaries -/
structure Tmp (c : Cfg) (fp : List Addr) : Prop where
  nd : fp.Nodup
  un : ∀ a ∈ fp, c.own a = none
def Fresh (c : Cfg) (fp : List Addr) : Prop := ∀ a ∈ fp, c.H a = none ∨ c.own a ≠ none
abbrev WX := Value → Option Addr → St → Hp → Prop
structure Gam where
  K : PySem.W.Frag
  W : WX
  ca : Str → Option Addr
inductive XR (Γ : Gam) (c : Cfg) (n : Nat) (e : MX) (C d : Addr) : Prop
  | mk {fs : List (Str × V)} : Γ.ca e.c = some C → c.H d = some (.xd fs) → fs.map (·.1) = e.ns → ROs Γ.K c n e.vs (fs.map (·.2)) [] → XR Γ c n e C d

def PostE (Γ : Gam) (c : Cfg) (n : Nat) (σ : St) (p : List (Nat × V)) (r : Res MV) (Q : VK) : Prop := match r with
  | .ok x s' => ∀ c' v fp, Rel Γ.K c' σ p s' → Keep c n c' s'.h.length → RX Γ.K c' s'.h.length σ x v fp → Tmp c' fp → Fresh c fp → Q v c'.H
  | .exc e s' => ∀ c' C d, Rel Γ.K c' σ p s' → Keep c n c' s'.h.length → XR Γ c' s'.h.length e C d → Γ.W (.ref C) (some d) σ c'.H
  | .stuck => False
def PostL (Γ : Gam) (c : Cfg) (n : Nat) (σ : St) (p : List (Nat × V)) (r : Res (List MV)) (Q : List V → Hp → Prop) : Prop := match r with
  | .ok xs s' => ∀ c' vs fp, Rel Γ.K c' σ p s' → Keep c n c' s'.h.length → RXs Γ.K c' s'.h.length σ xs vs fp → Tmp c' fp → Fresh c fp → Q vs c'.H
  | .exc e s' => ∀ c' C d, Rel Γ.K c' σ p s' → Keep c n c' s'.h.length → XR Γ c' s'.h.length e C d → Γ.W (.ref C) (some d) σ c'.H
  | .stuck => False
def PostT {α : Type} (Γ : Gam) (c : Cfg) (n : Nat) (σ : St) (p : List (Nat × V)) (r : Res α) (Q : α → Hp → Prop) : Prop := match r with
  | .ok b s' => ∀ c', Rel Γ.K c' σ p s' → Keep c n c' s'.h.length → Q b c'.H
  | .exc e s' => ∀ c' C d, Rel Γ.K c' σ p s' → Keep c n c' s'.h.length → XR Γ c' s'.h.length e C d → Γ.W (.ref C) (some d) σ c'.H
  | .stuck => False
def PostS (Γ : Gam) (c : Cfg) (n : Nat) (p : List (Nat × V)) (r : Out) (D : Ends) : Prop := match r with
  | .nx s' => ∀ c' σ', Rel Γ.K c' σ' p s' → Keep c n c' s'.h.length → D.nx σ' c'.H
  | .bk s' => ∀ c' σ', Rel Γ.K c' σ' p s' → Keep c n c' s'.h.length → D.bk σ' c'.H
  | .ct s' => ∀ c' σ', Rel Γ.K c' σ' p s' → Keep c n c' s'.h.length → D.ct σ' c'.H
  | .rt x s' => ∀ c' σ' v fp, Rel Γ.K c' σ' p s' → Keep c n c' s'.h.length → RO Γ.K c' s'.h.length x v fp → Tmp c' fp → Fresh c fp → D.rt v c'.H
  | .exc e s' => ∀ c' σ' C d, Rel Γ.K c' σ' p s' → Keep c n c' s'.h.length → XR Γ c' s'.h.length e C d → Γ.W (.ref C) (some d) σ' c'.H
  | .stuck => False

/-- the readings -/
def RE (Γ : Gam) (m : M MV) : TE := fun σ H Q => ∃ c p s, c.H = H ∧ Rel Γ.K c σ p s ∧ PostE Γ c s.h.length σ p (m s) Q
def RL (Γ : Gam) (m : M (List MV)) : TA := fun σ H Q => ∃ c p s, c.H = H ∧ Rel Γ.K c σ p s ∧ PostL Γ c s.h.length σ p (m s) Q
def RT {α : Type} (Γ : Gam) (m : M α) : St → Hp → (α → Hp → Prop) → Prop := fun σ H Q => ∃ c p s, c.H = H ∧ Rel Γ.K c σ p s ∧ PostT Γ c s.h.length σ p (m s) Q
def RS (Γ : Gam) (m : MS) : TS := fun D σ H => ∃ c p s, c.H = H ∧ Rel Γ.K c σ p s ∧ PostS Γ c s.h.length p (m s) D

/-! weakening of the layer's judgements -/
theorem PE.imp {X : Cx} {e : Expr} {t t' : TE} (h : PE X e t) (w : ∀ σ H Q, t' σ H Q → t σ H Q) : PE X e t' := ⟨fun pins s σ H Q I q => h.run pins s σ H Q I (w σ H Q q)⟩
theorem PT.imp {X : Cx} {e : Expr} {t t' : TT} (h : PT X e t) (w : ∀ σ H Q, t' σ H Q → t σ H Q) : PT X e t' := ⟨fun pins s σ H Q I q => h.run pins s σ H Q I (w σ H Q q)⟩
theorem PW.imp {X : Cx} {e : Expr} {t t' : TT} (h : PW X e t) (w : ∀ σ H Q, t' σ H Q → t σ H Q) : PW X e t' := ⟨fun wh pins s σ H Q I q => h.run wh pins s σ H Q I (w σ H Q q)⟩
theorem PA.imp {X : Cx} {e : List Expr} {t t' : TA} (h : PA X e t) (w : ∀ σ H Q, t' σ H Q → t σ H Q) : PA X e t' := ⟨fun pos pins s σ H Q I q => h.run pos pins s σ H Q I (w σ H Q q)⟩
theorem PS.imp {X : Cx} {e : Stmt} {t t' : TS} (h : PS X e t) (w : ∀ D σ H, t' D σ H → t D σ H) : PS X e t' := ⟨fun pins s σ H D I q => h.run pins s σ H D I (w D σ H q)⟩
theorem PSs.imp {X : Cx} {e : List Stmt} {t t' : TS} (h : PSs X e t) (w : ∀ D σ H, t' D σ H → t D σ H) : PSs X e t' := ⟨fun pins s σ H D I q => h.run pins s σ H D I (w D σ H q)⟩
theorem PI.imp {X : Cx} {tg e : Expr} {t t' : TI} (h : PI X tg e t) (w : ∀ σ H R, t' σ H R → t σ H R) : PI X tg e t' := ⟨fun pins s σ H R I q => h.run pins s σ H R I (w σ H R q)⟩

/-! ### basics of the state -/
section
variable {K : PySem.W.Frag} {c c' : Cfg} {n n' : Nat} {σ : St} {p : List (Nat × V)} {s : Sm}
theorem RX.keep {x : MV} {v : V} {fp : List Addr} (m : MutOk c) (k : Keep c n c' n') (r : RX K c n σ x v fp) (f : ∀ a ∈ fp, c'.H a = c.H a) : RX K c' n' σ x v fp := by
  cases r with
  | val r => exact .val (r.keep m k f)
  | sl h => exact .sl h
theorem RXs.keep (m : MutOk c) (k : Keep c n c' n') : ∀ {xs : List MV} {vs : List V} {fp : List Addr}, RXs K c n σ xs vs fp → (∀ a ∈ fp, c'.H a = c.H a) → RXs K c' n' σ xs vs fp
  | _, _, _, .nil, _ => .nil
  | _, _, _, .cons r t, f => .cons (RX.keep m k r fun a z => f a (List.mem_append_left _ z)) (RXs.keep m k t fun a z => f a (List.mem_append_right _ z))
theorem RX.at {x : MV} {v : V} {fp : List Addr} (r : RX K c n σ x v fp) : ∀ a ∈ fp, ∃ vs, c.H a = some (.lst vs) := by
  cases r with
  | val r => exact r.at
  | sl h => exact fun _ z => nomatch z
theorem RXs.at : ∀ {xs : List MV} {vs : List V} {fp : List Addr}, RXs K c n σ xs vs fp → ∀ a ∈ fp, ∃ vs, c.H a = some (.lst vs)
  | _, _, _, .nil, _, z => nomatch z
  | _, _, _, .cons r t, a, z => (List.mem_append.mp z).elim (RX.at r a) (RXs.at t a)
/-- a temporary stays -/
theorem Tmp.stay {fp : List Addr} (t : Tmp c fp) (at_ : ∀ a ∈ fp, ∃ vs, c.H a = some (.lst vs)) (k : Keep c n c' n') : Tmp c' fp ∧ ∀ a ∈ fp, c'.H a = c.H a :=
  ⟨⟨t.nd, fun a z => let ⟨_, e⟩ := at_ a z; (k.un a _ e (t.un a z)).2⟩, fun a z => let ⟨_, e⟩ := at_ a z; (k.un a _ e (t.un a z)).1.trans e.symm⟩
theorem Tmp.nil : Tmp c [] := ⟨List.nodup_nil, fun _ z => nomatch z⟩
theorem Fresh.nil : Fresh c [] := fun _ z => nomatch z
theorem Tmp.app {f g : List Addr} (hf : Tmp c f) (hg : Tmp c g) (d : ∀ a ∈ f, a ∉ g) : Tmp c (f ++ g) :=
  ⟨List.nodup_append.mpr ⟨hf.nd, hg.nd, fun a h b h' e => d a h (e ▸ h')⟩, fun a z => (List.mem_append.mp z).elim (hf.un a) (hg.un a)⟩
theorem Fresh.app {f g : List Addr} (hf : Fresh c f) (hg : Fresh c g) : Fresh c (f ++ g) := fun a z => (List.mem_append.mp z).elim (hf a) (hg a)
theorem Tmp.left {f g : List Addr} (h : Tmp c (f ++ g)) : Tmp c f := ⟨(List.nodup_append.mp h.nd).1, fun a z => h.un a (List.mem_append_left _ z)⟩
theorem Tmp.right {f g : List Addr} (h : Tmp c (f ++ g)) : Tmp c g := ⟨(List.nodup_append.mp h.nd).2.1, fun a z => h.un a (List.mem_append_right _ z)⟩
/-- fresh behind a step is fresh ahead of it -/
theorem Fresh.back {fp : List Addr} (k : Keep c n c' n') (f : Fresh c' fp) : Fresh c fp := fun a z => by
  cases h : c.H a with
  | none => exact .inl rfl
  | some o =>
    refine .inr fun t => ?_
    obtain ⟨h1, t1⟩ := k.un a o h t
    rcases f a z with q | q
    · rw [h1] at q; cases q
    · exact q t1
/-- two temporaries, one made behind the other -/
theorem apart {f g : List Addr} (hf : Tmp c f) (at_ : ∀ a ∈ f, ∃ vs, c.H a = some (.lst vs)) (hg : Fresh c g) : ∀ a ∈ f, a ∉ g := fun a z z' => by
  obtain ⟨_, e⟩ := at_ a z
  rcases hg a z' with q | q
  · rw [e] at q; cases q
  · exact q (hf.un a z)
end
end Mir

namespace Mir
open PySem PySem.Spec L2

/-- a value that owns nothing and is no handle -/
def MV.stable : MV → Bool
  | .lst _ => false
  | .dct _ _ => false
  | .tupo _ => false
  | .sl _ => false
  | _ => true
def MV.slotable : MV → Bool
  | .tupo _ => false
  | .sl _ => false
  | _ => true
section
variable {K : PySem.W.Frag} {c c' : Cfg} {n n' : Nat} {σ : St} {p : List (Nat × V)} {s : Sm}
theorem RO.stab {x : MV} {v : V} {fp : List Addr} (r : RO K c n x v fp) (h : x.stable = true) : fp = [] := by
  cases r <;> first | rfl | cases h
theorem RX.ro {x : MV} {v : V} {fp : List Addr} (r : RX K c n σ x v fp) (h : ∀ i, x ≠ .sl i) : RO K c n x v fp := by
  cases r with
  | val r => exact r
  | sl e => exact absurd rfl (h _)
theorem MV.stable.nosl {x : MV} (h : x.stable = true) : ∀ i, x ≠ .sl i := fun i e => by subst e; cases h
theorem MV.slotable.nosl {x : MV} (h : x.slotable = true) : ∀ i, x ≠ .sl i := fun i e => by subst e; cases h
theorem RX.stab {x : MV} {v : V} {fp : List Addr} (r : RX K c n σ x v fp) (h : x.stable = true) : fp = [] ∧ RO K c n x v [] := by
  have q := r.ro (MV.stable.nosl h)
  have e := q.stab h
  subst e
  exact ⟨rfl, q⟩

def setOwn (own : Addr → Option Tag) (fp : List Addr) (t : Option Tag) : Addr → Option Tag := fun a => if a ∈ fp then t else own a
theorem setOwn_in {own : Addr → Option Tag} {fp : List Addr} {t : Option Tag} {a : Addr} (h : a ∈ fp) : setOwn own fp t a = t := if_pos h
theorem setOwn_out {own : Addr → Option Tag} {fp : List Addr} {t : Option Tag} {a : Addr} (h : a ∉ fp) : setOwn own fp t a = own a := if_neg h

/-- what stays: everything but what is at fp -/
structure Part (c : Cfg) (n : Nat) (c' : Cfg) (n' : Nat) (fp : List Addr) : Prop where
  le : n ≤ n'
  ι : ∀ k, k < n → c'.ι k = c.ι k
  H : ∀ a o, a ∉ fp → c.H a = some o → c'.H a = some o
  own : ∀ a o, a ∉ fp → c.H a = some o → c'.own a = c.own a
theorem Part.keep (k : Part c n c' n' fp) (t : ∀ a ∈ fp, c.H a = none ∨ ∃ t, c.own a = some t ∧ t ≠ .fro) : Keep c n c' n' :=
  have out : ∀ a o, c.H a = some o → (c.own a = none ∨ c.own a = some .fro) → a ∉ fp := fun a o h q z => by
    rcases t a z with e | ⟨t, e, ne⟩
    · rw [h] at e; cases e
    · rw [e] at q
      rcases q with q | q
      · cases q
      · injection q with q; exact ne q
  ⟨k.le, k.ι, fun a o h q => ⟨k.H a o (out a o h (.inl q)) h, (k.own a o (out a o h (.inl q)) h).trans q⟩, fun a o h q => ⟨k.H a o (out a o h (.inr q)) h, (k.own a o (out a o h (.inr q)) h).trans q⟩⟩
theorem SqT.part {a : Addr} {vs : List V} (h : SqT K c.H a vs) (k : Part c n c' n' fp) (t : ∀ a ∈ fp, ∀ o, c.H a = some o → Mut (some o)) : SqT K c'.H a vs := by
  rcases h with (h | ⟨o, h⟩) | h
  · exact .inl (.inl (k.H _ _ (fun z => t _ z _ h) h))
  · exact .inl (.inr ⟨o, k.H _ _ (fun z => t _ z _ h) h⟩)
  · exact .inr h
theorem SqF.part {a : Addr} {vs : List V} (h : SqF K c a vs) (k : Part c n c' n' fp) (t : ∀ a ∈ fp, ∀ o, c.H a = some o → Mut (some o) ∧ c.own a ≠ some .fro) : SqF K c' a vs := by
  rcases h with ⟨o, h⟩ | h
  · exact .inl ⟨o, k.H _ _ (fun z => (t _ z _ h).1) h⟩
  · exact .inr h
mutual
theorem RO.part (k : Part c n c' n' fp) (t : ∀ a ∈ fp, ∀ o, c.H a = some o → Mut (some o) ∧ c.own a ≠ some .fro) : ∀ {x : MV} {v : V} {f : List Addr}, RO K c n x v f → (∀ a ∈ f, a ∉ fp) → RO K c' n' x v f
  | _, _, _, .non, _ => .non
  | _, _, _, .bl, _ => .bl
  | _, _, _, .int, _ => .int
  | _, _, _, .str, _ => .str
  | _, _, _, .ty, _ => .ty
  | _, _, _, .ref h, _ => by
    rw [← k.ι _ h]
    exact .ref (Nat.lt_of_lt_of_le h k.le)
  | _, _, _, .tup h r, f => .tup (SqT.part h k fun a z o e => (t a z o e).1) (ROs.part k t r f)
  | _, _, _, .tupo h r, f => .tupo (SqT.part h k fun a z o e => (t a z o e).1) (ROs.part k t r f)
  | _, _, _, .ext h r, f => .ext (h.part k t) (ROs.part k t r fun _ z => nomatch z)
  | _, _, _, .ro h q r, f => .ro (k.H _ _ (fun z => (t _ z _ h).2 q) h) ((k.own _ _ (fun z => (t _ z _ h).2 q) h).trans q) (ROs.part k t r fun _ z => nomatch z)
  | _, _, _, .lst h r, f => .lst (k.H _ _ (f _ (List.mem_singleton.mpr rfl)) h) (ROs.part k t r fun _ z => nomatch z)
theorem ROs.part (k : Part c n c' n' fp) (t : ∀ a ∈ fp, ∀ o, c.H a = some o → Mut (some o) ∧ c.own a ≠ some .fro) : ∀ {xs : List MV} {vs : List V} {f : List Addr}, ROs K c n xs vs f → (∀ a ∈ f, a ∉ fp) → ROs K c' n' xs vs f
  | _, _, _, .nil, _ => .nil
  | _, _, _, .cons r q, f => .cons (RO.part k t r fun a z => f a (List.mem_append_left _ z)) (ROs.part k t q fun a z => f a (List.mem_append_right _ z))
end
theorem ROb.part (k : Part c n c' n' fp) (t : ∀ a ∈ fp, ∀ o, c.H a = some o → Mut (some o) ∧ c.own a ≠ some .fro) {o : MO} {a : Addr} (r : ROb K c n o a) (f : a ∉ fp) : ROb K c' n' o a := by
  cases r with
  | lst h r => exact .lst (k.H _ _ f h) (r.part k t fun _ z => nomatch z)

/-- the general step: what is at fp has changed its owner, its content -/
theorem Rel.step {s' : Sm} {σ' : St} (R : Rel K c σ p s) (k : Part c s.h.length c' s'.h.length fp) (t : ∀ a ∈ fp, ∀ o, c.H a = some o → Mut (some o) ∧ c.own a ≠ some .fro)
    (pin : s'.pin = s.pin) (pinv : ∀ j v, (j, v) ∈ p → σ'[j]? = some (some v)) (len : σ'.length = s'.σ.length)
    (slots : ∀ i mv, s'.σ[i]? = some (some mv) → (s.σ[i]? = some (some mv) ∧ σ'[i]? = σ[i]? ∧ (∀ a ∈ fp, c.own a ≠ some (.slot i))) ∨ ∃ v f, σ'[i]? = some (some v) ∧ RO K c' s'.h.length mv v f ∧ f.Nodup ∧ ∀ a ∈ f, c'.own a = some (.slot i))
    (heap : ∀ j o, s'.h[j]? = some o → (s.h[j]? = some o ∧ c'.ι j = c.ι j ∧ c.ι j ∉ fp) ∨ (c'.own (c'.ι j) = some (.heap j) ∧ ROb K c' s'.h.length o (c'.ι j)))
    (mok : MutOk c') : Rel K c' σ' p s' := by
  refine ⟨len, fun i mv e => ?_, fun j o e => ?_, mok, R.pinl.trans pin.symm, pinv⟩
  · rcases slots i mv e with ⟨e1, e2, no⟩ | h
    · obtain ⟨v, f, h1, h2, h3, h4⟩ := R.slot i mv e1
      have out : ∀ a ∈ f, a ∉ fp := fun a z z' => no a z' (h4 a z)
      refine ⟨v, f, e2.trans h1, h2.part k t out, h3, fun a z => ?_⟩
      obtain ⟨vs, q⟩ := h2.at a z
      exact (k.own a _ (out a z) q).trans (h4 a z)
    · exact h
  · rcases heap j o e with ⟨e1, e2, no⟩ | h
    · obtain ⟨h1, h2⟩ := R.heap j o e1
      rw [e2]
      refine ⟨?_, h2.part k t no⟩
      cases h2 with
      | lst q _ => exact (k.own _ _ no q).trans h1
    · exact h
end
end Mir

namespace Mir
open PySem PySem.Spec L2
section
variable {K : PySem.W.Frag} {c c' c0 : Cfg} {n n' n0 : Nat} {σ : St} {p : List (Nat × V)} {s : Sm} {fp : List Addr}

theorem MutOk.un {a : Addr} (m : MutOk c) (h : c.H a = Option.none) : c.own a = Option.none := by
  cases e : c.own a with
  | none => rfl
  | some t =>
    have q := m a t e
    rw [h] at q
    exact q.elim
/-- a temporary is taken over -/
theorem Keep.take (k : Keep c0 n0 c n) (f : Fresh c0 fp) (q : Part c n c' n' fp) (nf : ∀ a ∈ fp, c.own a ≠ some .fro) : Keep c0 n0 c' n' := by
  refine ⟨Nat.le_trans k.le q.le, fun j h => (q.ι j (Nat.lt_of_lt_of_le h k.le)).trans (k.ι j h), fun a o h t => ?_, fun a o h t => ?_⟩
  · have out : a ∉ fp := fun z => by
      rcases f a z with e | e
      · rw [h] at e; cases e
      · exact e t
    obtain ⟨h1, t1⟩ := k.un a o h t
    exact ⟨q.H a o out h1, (q.own a o out h1).trans t1⟩
  · obtain ⟨h1, t1⟩ := k.fro a o h t
    have out : a ∉ fp := fun z => nf a z t1
    exact ⟨q.H a o out h1, (q.own a o out h1).trans t1⟩

theorem nd1 {a : Addr} : [a].Nodup := List.nodup_cons.mpr ⟨fun z => (nomatch z), List.nodup_nil⟩
/-! A. something new that nobody owns -/
def Cfg.new (c : Cfg) (q : Addr) (o : HO) : Cfg := ⟨c.ι, c.own, upd c.H q o⟩
theorem part_new {q : Addr} {o : HO} (h : c.H q = none) : Part c n (c.new q o) n [] :=
  ⟨Nat.le_refl _, fun _ _ => rfl, fun a u _ e => (upd_ne (ne_of_none e h)).trans e, fun _ _ _ _ => rfl⟩
theorem keep_new {q : Addr} {o : HO} (h : c.H q = none) : Keep c n (c.new q o) n := (part_new h).keep fun _ z => nomatch z
theorem mok_new {q : Addr} {o : HO} (m : MutOk c) (h : c.H q = none) : MutOk (c.new q o) := fun a t e => by
  have e' : c.own a = some t := e
  have ne : a ≠ q := fun z => by subst z; rw [m.un h] at e'; cases e'
  show Mut (upd c.H q o a)
  rw [upd_ne ne]; exact m a t e'
theorem Rel.new {q : Addr} {o : HO} (R : Rel K c σ p s) (h : c.H q = none) : Rel K (c.new q o) σ p s :=
  R.step (fp := []) (part_new h) (fun _ z => nomatch z) rfl R.pinv R.len (fun i mv e => .inl ⟨e, rfl, fun _ z => nomatch z⟩) (fun j o e => .inl ⟨e, rfl, fun z => nomatch z⟩) (mok_new R.mok h)
theorem tmp_new {q : Addr} {o : HO} (m : MutOk c) (h : c.H q = none) : Tmp (c.new q o) [q] :=
  ⟨nd1, fun a z => by rw [List.mem_singleton.mp z]; exact m.un h⟩
theorem fresh_new {q : Addr} (h : c.H q = none) : Fresh c [q] := fun a z => by rw [List.mem_singleton.mp z]; exact .inl h

/-! B. a slot's value is taken out -/
theorem SqF.re {a : Addr} {vs : List V} (h : SqF K c a vs) (eH : c'.H = c.H) (fr : ∀ a, c.own a = some .fro → c'.own a = some .fro) : SqF K c' a vs := by
  rcases h with h | h
  · exact .inl (by rw [eH]; exact h)
  · exact .inr h
mutual
theorem RO.re (eH : c'.H = c.H) (ei : ∀ k, k < n → c'.ι k = c.ι k) (le : n ≤ n') (fr : ∀ a, c.own a = some .fro → c'.own a = some .fro) : ∀ {x : MV} {v : V} {f : List Addr}, RO K c n x v f → RO K c' n' x v f
  | _, _, _, .non => .non
  | _, _, _, .bl => .bl
  | _, _, _, .int => .int
  | _, _, _, .str => .str
  | _, _, _, .ty => .ty
  | _, _, _, .ref h => by
    rw [← ei _ h]
    exact .ref (Nat.lt_of_lt_of_le h le)
  | _, _, _, .tup h r => .tup (by rw [eH]; exact h) (ROs.re eH ei le fr r)
  | _, _, _, .tupo h r => .tupo (by rw [eH]; exact h) (ROs.re eH ei le fr r)
  | _, _, _, .ext h r => .ext (h.re eH fr) (ROs.re eH ei le fr r)
  | _, _, _, .ro h q r => .ro (by rw [eH]; exact h) (fr _ q) (ROs.re eH ei le fr r)
  | _, _, _, .lst h r => .lst (by rw [eH]; exact h) (ROs.re eH ei le fr r)
theorem ROs.re (eH : c'.H = c.H) (ei : ∀ k, k < n → c'.ι k = c.ι k) (le : n ≤ n') (fr : ∀ a, c.own a = some .fro → c'.own a = some .fro) : ∀ {xs : List MV} {vs : List V} {f : List Addr}, ROs K c n xs vs f → ROs K c' n' xs vs f
  | _, _, _, .nil => .nil
  | _, _, _, .cons r q => .cons (RO.re eH ei le fr r) (ROs.re eH ei le fr q)
end
theorem RO.re2 {x : MV} {v : V} {f : List Addr} (r : RO K c n x v f) (c' : Cfg) (eH : c'.H = c.H) (ei : ∀ k, k < n → c'.ι k = c.ι k) (le : n ≤ n') (fr : ∀ a, c.own a = some .fro → c'.own a = some .fro) : RO K c' n' x v f := RO.re eH ei le fr r
theorem ROs.re2 {x : List MV} {v : List V} {f : List Addr} (r : ROs K c n x v f) (c' : Cfg) (eH : c'.H = c.H) (ei : ∀ k, k < n → c'.ι k = c.ι k) (le : n ≤ n') (fr : ∀ a, c.own a = some .fro → c'.own a = some .fro) : ROs K c' n' x v f := ROs.re eH ei le fr r
theorem tag_fro {t : Option Tag} (nf : ∀ a ∈ fp, c.own a ≠ some .fro) : ∀ a, c.own a = some .fro → (setOwn c.own fp t) a = some .fro := fun a e => by
  rw [setOwn_out fun z => nf a z e]; exact e
def Cfg.tag (c : Cfg) (fp : List Addr) (t : Option Tag) : Cfg := ⟨c.ι, setOwn c.own fp t, c.H⟩
theorem part_tag {t : Option Tag} (le : n ≤ n') : Part c n (c.tag fp t) n' fp := ⟨le, fun _ _ => rfl, fun _ _ _ e => e, fun _ _ z _ => setOwn_out z⟩
theorem lst_mut {vs : List V} : Mut (some (.lst vs)) := trivial
theorem mut_of {x : MV} {v : V} (r : RO K c n x v fp) : ∀ a ∈ fp, ∀ o, c.H a = some o → Mut (some o) := fun a z o e => by
  obtain ⟨vs, q⟩ := r.at a z
  rw [q] at e; cases e; trivial
theorem mok_tag {t : Option Tag} (m : MutOk c) (h : ∀ a ∈ fp, ∃ vs, c.H a = some (.lst vs)) : MutOk (c.tag fp t) := fun a u e => by
  by_cases z : a ∈ fp
  · obtain ⟨vs, q⟩ := h a z
    show Mut (c.H a)
    rw [q]; trivial
  · exact m a u ((setOwn_out z).symm.trans e)
def Sm.out (s : Sm) (i : Nat) : Sm := { s with σ := s.σ.set i none }
theorem set_get {α : Type} {l : List α} {i j : Nat} {x y : α} (h : (l.set i x)[j]? = some y) : (j = i ∧ y = x) ∨ (j ≠ i ∧ l[j]? = some y) := by
  by_cases e : i = j
  · subst e
    have hl : i < l.length := by
      have := (List.getElem?_eq_some_iff.mp h).1
      simpa using this
    rw [List.getElem?_set_self hl] at h
    exact .inl ⟨rfl, (Option.some.inj h).symm⟩
  · rw [List.getElem?_set_ne e] at h
    exact .inr ⟨fun z => e z.symm, h⟩
theorem Rel.take {i : Nat} {mv : MV} (R : Rel K c σ p s) (e : s.σ[i]? = some (some mv)) :
    ∃ v fp, σ[i]? = some (some v) ∧ Rel K (c.tag fp none) σ p (s.out i) ∧ Keep c s.h.length (c.tag fp none) (s.out i).h.length ∧ RO K (c.tag fp none) s.h.length mv v fp ∧ Tmp (c.tag fp none) fp ∧ Fresh c fp := by
  obtain ⟨v, fp, h1, h2, h3, h4⟩ := R.slot i mv e
  have hm : ∀ a ∈ fp, ∀ o, c.H a = some o → Mut (some o) ∧ c.own a ≠ some .fro := fun a z o q => ⟨mut_of h2 a z o q, fun t => by rw [h4 a z] at t; cases t⟩
  have pt : Part c s.h.length (c.tag fp none) (s.out i).h.length fp := part_tag (Nat.le_refl _)
  refine ⟨v, fp, h1, R.step pt hm rfl R.pinv (by rw [R.len]; exact (List.length_set ..).symm) (fun j m q => ?_) (fun j o q => .inl ⟨q, rfl, fun z => ?_⟩) (mok_tag R.mok h2.at), pt.keep fun a z => .inr ⟨_, h4 a z, fun q => by cases q⟩, ?_, ⟨h3, fun a z => setOwn_in z⟩, fun a z => .inr (by rw [h4 a z]; exact fun q => by cases q)⟩
  · rcases set_get q with ⟨_, e2⟩ | ⟨ne, e2⟩
    · cases e2
    · exact .inl ⟨e2, rfl, fun a z t => by rw [h4 a z] at t; cases t; exact ne rfl⟩
  · have := (R.heap j o q).1
    rw [h4 _ z] at this; cases this
  · -- told of the same, by content
    exact h2.re2 (c.tag fp none) rfl (fun _ _ => rfl) (Nat.le_refl _) (tag_fro fun a z => (hm a z _ (h2.at a z).choose_spec).2)

/-! C. a slot is stored -/
def Sm.put (s : Sm) (i : Nat) (x : MV) : Sm := { s with σ := s.σ.set i (some x) }
theorem Rel.store {i : Nat} {x : MV} {v : V} (R : Rel K c σ p s) (hp : i ∉ s.pin) (k : Keep c0 n0 c s.h.length) (r : RO K c s.h.length x v fp) (t : Tmp c fp) (f : Fresh c0 fp) :
    Rel K (c.tag fp (some (.slot i))) (σ.set i (some v)) p (s.put i x) ∧ Keep c0 n0 (c.tag fp (some (.slot i))) (s.put i x).h.length := by
  have nf : ∀ a ∈ fp, c.own a ≠ some .fro := fun a z q => by rw [t.un a z] at q; cases q
  have pt : Part c s.h.length (c.tag fp (some (.slot i))) (s.put i x).h.length fp := part_tag (Nat.le_refl _)
  refine ⟨R.step pt (fun a z o q => ⟨mut_of r a z o q, nf a z⟩) rfl (fun j w e => ?_) (by show (σ.set i (some v)).length = (s.σ.set i (some x)).length; rw [List.length_set, List.length_set]; exact R.len) (fun j m q => ?_) (fun j o q => .inl ⟨q, rfl, fun z => ?_⟩) (mok_tag R.mok r.at), k.take f pt nf⟩
  · have ne : i ≠ j := fun z => hp (by rw [← R.pinl]; subst z; exact List.mem_map.mpr ⟨_, e, rfl⟩)
    rw [List.getElem?_set_ne ne]; exact R.pinv j w e
  · rcases set_get q with ⟨e1, e2⟩ | ⟨ne, e2⟩
    · subst e1; cases e2
      have hl : j < σ.length := by
        have := (List.getElem?_eq_some_iff.mp q).1
        rw [R.len]
        simpa [Sm.put] using this
      exact .inr ⟨v, fp, List.getElem?_set_self hl, r.re2 (c.tag fp (some (.slot j))) rfl (fun _ _ => rfl) (Nat.le_refl _) (tag_fro nf), t.nd, fun a z => setOwn_in z⟩
    · exact .inl ⟨e2, List.getElem?_set_ne (fun z => ne z.symm), fun a z q => by rw [t.un a z] at q; cases q⟩
  · have := (R.heap j o q).1
    rw [t.un _ z] at this; cases this

/-! D. a temporary list is frozen -/
theorem Rel.freeze {xs : List MV} {v : V} (R : Rel K c σ p s) (k : Keep c0 n0 c s.h.length) (r : RO K c s.h.length (.lst xs) v fp) (t : Tmp c fp) (f : Fresh c0 fp) :
    Rel K (c.tag fp (some .fro)) σ p s ∧ Keep c0 n0 (c.tag fp (some .fro)) s.h.length ∧ RO K (c.tag fp (some .fro)) s.h.length (.ro xs) v [] := by
  have nf : ∀ a ∈ fp, c.own a ≠ some .fro := fun a z q => by rw [t.un a z] at q; cases q
  have pt : Part c s.h.length (c.tag fp (some .fro)) s.h.length fp := part_tag (Nat.le_refl _)
  refine ⟨R.step pt (fun a z o q => ⟨mut_of r a z o q, nf a z⟩) rfl R.pinv R.len (fun j m q => .inl ⟨q, rfl, fun a z q => by rw [t.un a z] at q; cases q⟩) (fun j o q => .inl ⟨q, rfl, fun z => ?_⟩) (mok_tag R.mok r.at), k.take f pt nf, ?_⟩
  · have := (R.heap j o q).1
    rw [t.un _ z] at this; cases this
  · cases r with
    | lst h q => exact .ro h (setOwn_in (List.mem_singleton.mpr rfl)) (q.re2 (c.tag _ (some .fro)) rfl (fun _ _ => rfl) (Nat.le_refl _) (tag_fro nf))

/-! E. a list that is owned is changed -/
def lget (s : Sm) : MV → Option (List MV)
  | .sl i => match s.σ[i]? with | some (some (.lst xs)) => some xs | _ => none
  | .ref k => match s.h[k]? with | some (.lst xs) => some xs | _ => none
  | _ => none
def lset (s : Sm) (x : MV) (ys : List MV) : Sm := match x with
  | .sl i => { s with σ := s.σ.set i (some (.lst ys)) }
  | .ref k => { s with h := s.h.set k (.lst ys) }
  | _ => s
theorem lset_len {x : MV} {ys : List MV} : (lset s x ys).h.length = s.h.length := by
  unfold lset
  split <;> simp
theorem lget_ok {x : MV} {v : V} {xs : List MV} (R : Rel K c σ p s) (r : RX K c s.h.length σ x v fp) (e : lget s x = some xs) :
    ∃ a vs, v = .ref a ∧ c.H a = some (.lst vs) ∧ ROs K c s.h.length xs vs [] ∧ (∃ t, c.own a = some t ∧ t ≠ .fro) := by
  cases r with
  | sl h =>
    rename_i i
    have e : (match s.σ[i]? with | some (some (.lst xs)) => some xs | _ => none) = some xs := e
    split at e
    · cases e
      rename_i q
      obtain ⟨w, f, h1, h2, h3, h4⟩ := R.slot i _ q
      rw [h] at h1; cases h1
      cases h2 with
      | lst h5 h6 => exact ⟨_, _, rfl, h5, h6, _, h4 _ (List.mem_singleton.mpr rfl), fun z => by cases z⟩
    · cases e
  | val r =>
    cases r with
    | ref h =>
      rename_i k
      have e : (match s.h[k]? with | some (.lst xs) => some xs | _ => none) = some xs := e
      split at e
      · cases e
        rename_i q
        obtain ⟨h1, h2⟩ := R.heap k _ q
        cases h2 with
        | lst h3 h4 => exact ⟨_, _, rfl, h3, h4, _, h1, fun z => by cases z⟩
      · cases e
    | _ => cases e
theorem part_upd {a : Addr} {o : HO} : Part c n ⟨c.ι, c.own, upd c.H a o⟩ n [a] :=
  ⟨Nat.le_refl _, fun _ _ => rfl, fun b u z e => (upd_ne fun q => z (List.mem_singleton.mpr q)).trans e, fun _ _ _ _ => rfl⟩
theorem lset_ok {x : MV} {a : Addr} {xs ys : List MV} {ws : List V} (R : Rel K c σ p s) (r : RX K c s.h.length σ x (.ref a) fp) (e : lget s x = some xs) (q : ROs K c s.h.length ys ws []) :
    Rel K ⟨c.ι, c.own, upd c.H a (.lst ws)⟩ σ p (lset s x ys) ∧ Keep c s.h.length ⟨c.ι, c.own, upd c.H a (.lst ws)⟩ (lset s x ys).h.length ∧ Part c s.h.length ⟨c.ι, c.own, upd c.H a (.lst ws)⟩ s.h.length [a] ∧
      (∀ b ∈ [a], ∀ o, c.H b = some o → Mut (some o) ∧ c.own b ≠ some .fro) := by
  obtain ⟨a', vs, e1, e2, e3, t, e4, e5⟩ := lget_ok R r e
  cases e1
  have hm : ∀ b ∈ [a], ∀ o, c.H b = some o → Mut (some o) ∧ c.own b ≠ some .fro := fun b z o h => by
    have := List.mem_singleton.mp z
    subst this
    rw [e2] at h; cases h
    exact ⟨trivial, fun z => by rw [e4] at z; cases z; exact e5 rfl⟩
  have pt : Part c s.h.length ⟨c.ι, c.own, upd c.H a (.lst ws)⟩ s.h.length [a] := part_upd
  have mk' : MutOk ⟨c.ι, c.own, upd c.H a (.lst ws)⟩ := fun b u h => by
    by_cases z : b = a
    · subst z; show Mut (upd c.H b _ b); rw [upd_same]; trivial
    · show Mut (upd c.H a _ b); rw [upd_ne z]; exact R.mok b u h
  refine ⟨?_, by rw [lset_len]; exact pt.keep fun b z => .inr ⟨t, by rw [List.mem_singleton.mp z]; exact e4, e5⟩, pt, hm⟩
  have q' : ROs K ⟨c.ι, c.own, upd c.H a (.lst ws)⟩ s.h.length ys ws [] := q.part pt hm fun _ z => nomatch z
  cases r with
  | sl h =>
    rename_i i
    have e : (match s.σ[i]? with | some (some (.lst xs)) => some xs | _ => none) = some xs := e
    split at e
    · cases e
      rename_i q0
      obtain ⟨w, f, h1, h2, h3, h4⟩ := R.slot i _ q0
      rw [h] at h1; cases h1
      have fe : f = [a] := by cases h2; rfl
      subst fe
      have ha := h4 a (List.mem_singleton.mpr rfl)
      refine R.step (s' := lset s (.sl i) ys) pt hm rfl R.pinv (by show σ.length = (s.σ.set i _).length; rw [List.length_set]; exact R.len) (fun j m z => ?_) (fun j o z => .inl ⟨z, rfl, fun w => ?_⟩) mk'
      · rcases set_get z with ⟨z1, z2⟩ | ⟨ne, z2⟩
        · cases z1; cases z2
          exact .inr ⟨_, _, h, .lst upd_same q', nd1, fun b w => by rw [List.mem_singleton.mp w]; exact ha⟩
        · exact .inl ⟨z2, rfl, fun b w u => by rw [List.mem_singleton.mp w, ha] at u; cases u; exact ne rfl⟩
      · have := (R.heap j o z).1
        rw [List.mem_singleton.mp w, ha] at this; cases this
    · cases e
  | val r =>
    cases r with
    | ref h =>
      rename_i k
      have e : (match s.h[k]? with | some (.lst xs) => some xs | _ => none) = some xs := e
      split at e
      · cases e
        rename_i q0
        obtain ⟨h1, h2⟩ := R.heap k _ q0
        have hl : (lset s (.ref k) ys).h.length = s.h.length := lset_len
        refine R.step (s' := lset s (.ref k) ys) (by rw [hl]; exact pt) hm rfl R.pinv R.len (fun j m z => .inl ⟨z, rfl, fun b w u => by rw [List.mem_singleton.mp w, h1] at u; cases u⟩) (fun j o z => ?_) mk'
        rcases set_get z with ⟨z1, z2⟩ | ⟨ne, z2⟩
        · cases z1; cases z2
          rw [hl]
          exact .inr ⟨h1, .lst upd_same q'⟩
        · refine .inl ⟨z2, rfl, fun w => ?_⟩
          have := (R.heap j o z2).1
          rw [List.mem_singleton.mp w, h1] at this; cases this; exact ne rfl
      · cases e
    | _ => cases e

/-! G. a temporary list is laid into the mirror's heap -/
def Sm.lay (s : Sm) (o : MO) : Sm := { s with h := s.h ++ [o] }
theorem Rel.box {xs : List MV} {v : V} (R : Rel K c σ p s) (k : Keep c0 n0 c s.h.length) (r : RO K c s.h.length (.lst xs) v fp) (t : Tmp c fp) (f : Fresh c0 fp) :
    ∃ c', c'.H = c.H ∧ Rel K c' σ p (s.lay (.lst xs)) ∧ Keep c0 n0 c' (s.lay (.lst xs)).h.length ∧ RO K c' (s.lay (.lst xs)).h.length (.ref s.h.length) v [] := by
  cases r with
  | lst h q =>
  rename_i a vs
  have nf : ∀ b ∈ [a], c.own b ≠ some .fro := fun b z q => by rw [t.un b z] at q; cases q
  have le : s.h.length ≤ (s.lay (.lst xs)).h.length := by simp [Sm.lay]
  let c' : Cfg := ⟨fun j => if j = s.h.length then a else c.ι j, setOwn c.own [a] (some (.heap s.h.length)), c.H⟩
  have ei : ∀ j, j < s.h.length → c'.ι j = c.ι j := fun j h => if_neg (Nat.ne_of_lt h)
  have ea : c'.ι s.h.length = a := if_pos rfl
  have pt : Part c s.h.length c' (s.lay (.lst xs)).h.length [a] := ⟨le, ei, fun _ _ _ e => e, fun _ _ z _ => setOwn_out z⟩
  have fr : ∀ b, c.own b = some .fro → c'.own b = some .fro := tag_fro nf
  refine ⟨c', rfl, R.step pt (fun b z o q => ⟨by rw [List.mem_singleton.mp z, h] at q; cases q; trivial, nf b z⟩) rfl R.pinv R.len (fun j m q => .inl ⟨q, rfl, fun b z q => by rw [t.un b z] at q; cases q⟩) (fun j o z => ?_) (mok_tag R.mok fun b z => ⟨vs, by rw [List.mem_singleton.mp z]; exact h⟩), k.take f pt nf, ?_⟩
  · rcases Nat.lt_or_ge j s.h.length with hj | hj
    · have z' : s.h[j]? = some o := by
        have z : (s.h ++ [MO.lst xs])[j]? = some o := z
        rwa [List.getElem?_append_left hj] at z
      refine .inl ⟨z', ei j hj, fun w => ?_⟩
      have := (R.heap j o z').1
      rw [t.un _ w] at this; cases this
    · have z : (s.h ++ [MO.lst xs])[j]? = some o := z
      have hj2 : j = s.h.length := by
        have := (List.getElem?_eq_some_iff.mp z).1
        simp at this
        omega
      subst hj2
      rw [List.getElem?_append_right (Nat.le_refl _)] at z
      simp at z
      subst z
      refine .inr ?_
      rw [ea]
      exact ⟨setOwn_in (List.mem_singleton.mpr rfl), .lst h (q.re2 c' rfl ei le fr)⟩
  · have : RO K c' (s.lay (.lst xs)).h.length (.ref s.h.length) (.ref (c'.ι s.h.length)) [] := .ref (by simp [Sm.lay])
    rwa [ea] at this
end
end Mir

namespace Mir
open PySem PySem.Spec L2

/-! ### values by operations -/
/-- g tells what the layer's r asks -/
def Ok1 (Γ : Gam) (r : V → Hp → VK → Prop) (g : MV → M MV) : Prop :=
  ∀ c0 n0 c σ p s x v fp Q, Rel Γ.K c σ p s → Keep c0 n0 c s.h.length → RX Γ.K c s.h.length σ x v fp → Tmp c fp → Fresh c0 fp → PostE Γ c0 n0 σ p (g x s) Q → r v c.H Q
def Ok2 (Γ : Gam) (r : R2) (g : MV → MV → M MV) : Prop :=
  ∀ c0 n0 c σ p s x y v u f1 f2 Q, Rel Γ.K c σ p s → Keep c0 n0 c s.h.length → RX Γ.K c s.h.length σ x v f1 → RX Γ.K c s.h.length σ y u f2 → Tmp c (f1 ++ f2) → Fresh c0 (f1 ++ f2) → PostE Γ c0 n0 σ p (g x y s) Q → r v u c.H Q
def Ok (Γ : Gam) (r : List V → Hp → VK → Prop) (f : List MV → M MV) : Prop :=
  ∀ c0 n0 c σ p s xs vs fp Q, Rel Γ.K c σ p s → Keep c0 n0 c s.h.length → RXs Γ.K c s.h.length σ xs vs fp → Tmp c fp → Fresh c0 fp → PostE Γ c0 n0 σ p (f xs s) Q → r vs c.H Q
def m1 (g : MV → M MV) (a : M MV) : M MV := mBind a g
def m2 (g : MV → MV → M MV) (a b : M MV) : M MV := mBind a fun x => mBind b fun y => g x y
def mL (f : List MV → M MV) (a : M (List MV)) : M MV := mBind a f
def mNil : M (List MV) := mPure []
def mCons (a : M MV) (r : M (List MV)) : M (List MV) := mBind a fun x => mBind r fun xs => mPure (x :: xs)

section
variable {Γ : Gam} {X : Cx} {c0 c : Cfg} {n0 n : Nat} {σ : St} {H : Hp} {p : List (Nat × V)} {s : Sm}

theorem RE_1 {f : MV → M MV} {r : V → Hp → VK → Prop} {a : M MV} {Q : VK} (ok : Ok1 Γ r f) (h : RE Γ (m1 f a) σ H Q) : RE Γ a σ H fun v H1 => r v H1 Q := by
  obtain ⟨c, p, s, e, R, h⟩ := h
  refine ⟨c, p, s, e, R, ?_⟩
  unfold m1 mBind at h
  revert h
  cases a s with
  | stuck => exact id
  | exc e s1 => exact id
  | ok x s1 =>
    intro h c1 v fp R1 k1 r1 t1 f1
    exact ok c s.h.length c1 σ p s1 x v fp Q R1 k1 r1 t1 f1 h
theorem RE_2 {f : MV → MV → M MV} {r : R2} {a b : M MV} {Q : VK} (ok : Ok2 Γ r f) (h : RE Γ (m2 f a b) σ H Q) : RE Γ a σ H fun v H1 => RE Γ b σ H1 fun u H2 => r v u H2 Q := by
  obtain ⟨c, p, s, e, R, h⟩ := h
  refine ⟨c, p, s, e, R, ?_⟩
  unfold m2 mBind at h
  revert h
  cases a s with
  | stuck => exact id
  | exc e s1 => exact id
  | ok x s1 =>
    intro h c1 v fp R1 k1 r1 t1 f1
    refine ⟨c1, p, s1, rfl, R1, ?_⟩
    revert h
    dsimp only
    cases b s1 with
    | stuck => exact id
    | exc e s2 => exact fun h c2 C d R2 k2 x2 => h c2 C d R2 (k1.trans k2) x2
    | ok y s2 =>
      intro h c2 u fp2 R2 k2 r2 t2 f2
      obtain ⟨t1', st⟩ := t1.stay r1.at k2
      exact ok c s.h.length c2 σ p s2 x y v u fp fp2 Q R2 (k1.trans k2) (r1.keep R1.mok k2 st) r2 (t1'.app t2 (apart t1 r1.at f2)) (f1.app (f2.back k1)) h
theorem RE_L {f : List MV → M MV} {r : List V → Hp → VK → Prop} {a : M (List MV)} {Q : VK} (ok : Ok Γ r f) (h : RE Γ (mL f a) σ H Q) : RL Γ a σ H fun vs H1 => r vs H1 Q := by
  obtain ⟨c, p, s, e, R, h⟩ := h
  refine ⟨c, p, s, e, R, ?_⟩
  unfold mL mBind at h
  revert h
  cases a s with
  | stuck => exact id
  | exc e s1 => exact id
  | ok x s1 => exact fun h c1 v fp R1 k1 r1 t1 f1 => ok c s.h.length c1 σ p s1 x v fp Q R1 k1 r1 t1 f1 h
/-- arguments -/
theorem pa_nilM : PA X [] (RL Γ mNil) := PA.imp pa_nil fun σ H Q h => by
  obtain ⟨c, p, s, e, R, h⟩ := h
  have := h c [] [] R Keep.refl .nil Tmp.nil Fresh.nil
  rw [e] at this
  exact this
theorem pa_consM {e : Expr} {es : List Expr} {a : M MV} {r : M (List MV)} (ha : PE X e (RE Γ a)) (hr : PA X es (RL Γ r)) (hs : starEach (e :: es) X.env = (false, eval e X.env) :: starEach es X.env := by rfl) : PA X (e :: es) (RL Γ (mCons a r)) :=
  PA.imp (pa_cons ha hr hs) fun σ H Q h => by
    obtain ⟨c, p, s, e, R, h⟩ := h
    refine ⟨c, p, s, e, R, ?_⟩
    unfold mCons mBind at h
    revert h
    cases a s with
    | stuck => exact id
    | exc e s1 => exact id
    | ok x s1 =>
      intro h c1 v fp R1 k1 r1 t1 f1
      refine ⟨c1, p, s1, rfl, R1, ?_⟩
      revert h
      dsimp only
      cases r s1 with
      | stuck => exact id
      | exc e s2 => exact fun h c2 C d R2 k2 x2 => h c2 C d R2 (k1.trans k2) x2
      | ok ys s2 =>
        intro h c2 us fp2 R2 k2 r2 t2 f2
        obtain ⟨t1', st⟩ := t1.stay r1.at k2
        exact h c2 (v :: us) (fp ++ fp2) R2 (k1.trans k2) (.cons (r1.keep R1.mok k2 st) r2) (t1'.app t2 (apart t1 r1.at f2)) (f1.app (f2.back k1))

/-! ### the ways of a result -/
theorem PostE.val {x : MV} {v : V} {Q : VK} (h : PostE Γ c0 n0 σ p (.ok x s) Q) (R : Rel Γ.K c σ p s) (k : Keep c0 n0 c s.h.length) (r : RO Γ.K c s.h.length x v []) : Q v c.H := h c v [] R k (.val r) Tmp.nil Fresh.nil
/-- a new unowned thing (a tuple) -/
theorem PostE.tup {xs : List MV} {vs : List V} {Q : VK} (h : PostE Γ c0 n0 σ p (.ok (.tup xs) s) Q) (R : Rel Γ.K c σ p s) (k : Keep c0 n0 c s.h.length) (r : ROs Γ.K c s.h.length xs vs []) {q : Addr} (hq : c.H q = none) : Q (.ref q) (upd c.H q (.tup vs)) := by
  have k1 : Keep c s.h.length (c.new q (.tup vs)) s.h.length := keep_new hq
  refine h (c.new q (.tup vs)) (.ref q) [] (R.new hq) (k.trans k1) (.val (.tup (SqT.of upd_same) (r.keep R.mok k1 fun _ z => nomatch z))) Tmp.nil Fresh.nil
theorem Fresh.back0 {fp : List Addr} (k : Keep c0 n0 c n) (h : ∀ a ∈ fp, c.H a = none) : Fresh c0 fp := Fresh.back k fun a z => .inl (h a z)
/-- a new list -/
theorem PostE.lst {xs : List MV} {vs : List V} {Q : VK} (h : PostE Γ c0 n0 σ p (.ok (.lst xs) s) Q) (R : Rel Γ.K c σ p s) (k : Keep c0 n0 c s.h.length) (r : ROs Γ.K c s.h.length xs vs []) {q : Addr} (hq : c.H q = none) : Q (.ref q) (upd c.H q (.lst vs)) := by
  have k1 : Keep c s.h.length (c.new q (.lst vs)) s.h.length := keep_new hq
  refine h (c.new q (.lst vs)) (.ref q) [q] (R.new hq) (k.trans k1) (.val (.lst upd_same (r.keep R.mok k1 fun _ z => nomatch z))) (tmp_new R.mok hq) (Fresh.back0 k fun a z => by rw [List.mem_singleton.mp z]; exact hq)
/-- a list that is owned is changed, a value handed back -/
theorem PostE.set {x y : MV} {a : Addr} {v : V} {xs ys : List MV} {ws : List V} {fp : List Addr} {Q : VK} (h : PostE Γ c0 n0 σ p (.ok y (lset s x ys)) Q) (R : Rel Γ.K c σ p s) (k : Keep c0 n0 c s.h.length)
    (rx : RX Γ.K c s.h.length σ x (.ref a) fp) (e : lget s x = some xs) (q : ROs Γ.K c s.h.length ys ws []) (r : RO Γ.K c s.h.length y v []) : Q v (upd c.H a (.lst ws)) := by
  obtain ⟨R1, k1, pt, hm⟩ := lset_ok R rx e q
  exact h _ v [] R1 (k.trans k1) (.val (by rw [lset_len]; exact r.part pt hm fun _ z => nomatch z)) Tmp.nil Fresh.nil

/-! ### readings of sequences -/
def seqL (s : Sm) : MV → Option (List MV)
  | .ro xs => some xs
  | .ext xs => some xs
  | .lst xs => some xs
  | x => lget s x
/-- a list that stands in the heap itself -/
def seqH (s : Sm) : MV → Option (List MV)
  | .ro xs => some xs
  | .lst xs => some xs
  | x => lget s x
def seqT : MV → Option (List MV)
  | .tup xs => some xs
  | _ => none
variable {K : PySem.W.Frag}
theorem seqH_ok {x : MV} {v : V} {fp : List Addr} {xs : List MV} (R : Rel K c σ p s) (r : RX K c s.h.length σ x v fp) (e : seqH s x = some xs) : ∃ a vs, v = .ref a ∧ c.H a = some (.lst vs) ∧ ROs K c s.h.length xs vs [] := by
  cases r with
  | sl h =>
    obtain ⟨a, vs, e1, e2, e3, _⟩ := lget_ok R (.sl h) (show lget s _ = some xs from e)
    exact ⟨a, vs, e1, e2, e3⟩
  | val r =>
    cases r with
    | ref h =>
      obtain ⟨a, vs, e1, e2, e3, _⟩ := lget_ok R (.val (.ref h)) (show lget s _ = some xs from e)
      exact ⟨a, vs, e1, e2, e3⟩
    | ro h q r => cases e; exact ⟨_, _, rfl, h, r⟩
    | lst h r => cases e; exact ⟨_, _, rfl, h, r⟩
    | _ => cases e
theorem seqL_ok {x : MV} {v : V} {fp : List Addr} {xs : List MV} (R : Rel K c σ p s) (r : RX K c s.h.length σ x v fp) (e : seqL s x = some xs) : ∃ a vs, v = .ref a ∧ SqL K c.H a vs ∧ ROs K c s.h.length xs vs [] := by
  cases r with
  | sl h =>
    obtain ⟨a, vs, e1, e2, e3, _⟩ := lget_ok R (.sl h) (show lget s _ = some xs from e)
    exact ⟨a, vs, e1, SqL.of e2, e3⟩
  | val r =>
    cases r with
    | ref h =>
      obtain ⟨a, vs, e1, e2, e3, _⟩ := lget_ok R (.val (.ref h)) (show lget s _ = some xs from e)
      exact ⟨a, vs, e1, SqL.of e2, e3⟩
    | ro h q r => cases e; exact ⟨_, _, rfl, SqL.of h, r⟩
    | ext h r => cases e; exact ⟨_, _, rfl, h.sq, r⟩
    | lst h r => cases e; exact ⟨_, _, rfl, SqL.of h, r⟩
    | _ => cases e
theorem seqT_ok {x : MV} {v : V} {fp : List Addr} {xs : List MV} {n : Nat} (r : RX K c n σ x v fp) (e : seqT x = some xs) : ∃ a vs, v = .ref a ∧ SqT K c.H a vs ∧ ROs K c n xs vs [] ∧ fp = [] := by
  cases r with
  | sl h => cases e
  | val r =>
    cases r with
    | tup h r => cases e; exact ⟨_, _, rfl, h, r, rfl⟩
    | _ => cases e
theorem ROs.inv {x : MV} {xs : List MV} {ws : List V} {fp : List Addr} {n : Nat} (h : ROs K c n (x :: xs) ws fp) : ∃ v vs f g, ws = v :: vs ∧ fp = f ++ g ∧ RO K c n x v f ∧ ROs K c n xs vs g := by
  cases h with
  | cons r t => exact ⟨_, _, _, _, rfl, rfl, r, t⟩
theorem ROs.inv0 {x : MV} {xs : List MV} {ws : List V} {n : Nat} (h : ROs K c n (x :: xs) ws []) : ∃ v vs, ws = v :: vs ∧ RO K c n x v [] ∧ ROs K c n xs vs [] := by
  obtain ⟨v, vs, f, g, e1, e2, r, t⟩ := h.inv
  obtain ⟨rfl, rfl⟩ := List.append_eq_nil_iff.mp e2.symm
  exact ⟨v, vs, e1, r, t⟩
theorem ROs.inil {ws : List V} {fp : List Addr} {n : Nat} (h : ROs K c n [] ws fp) : ws = [] ∧ fp = [] := by
  cases h; exact ⟨rfl, rfl⟩
theorem ROs.cons0 {x : MV} {v : V} {xs : List MV} {vs : List V} {n : Nat} (r : RO K c n x v []) (t : ROs K c n xs vs []) : ROs K c n (x :: xs) (v :: vs) [] := .cons r t
theorem ROs.get {n : Nat} : ∀ {xs : List MV} {vs : List V}, ROs K c n xs vs [] → ∀ {i : Nat} {x : MV}, xs[i]? = some x → ∃ v, vs[i]? = some v ∧ RO K c n x v []
  | [], _, _, _, _, e => by simp at e
  | y :: ys, _, h, i, x, e => by
    obtain ⟨v, vs, rfl, r, t⟩ := h.inv0
    cases i with
    | zero => simp at e; subst e; exact ⟨v, rfl, r⟩
    | succ i =>
      obtain ⟨w, h1, h2⟩ := ROs.get t (i := i) (x := x) (by simpa using e)
      exact ⟨w, by simpa using h1, h2⟩
theorem ROs.set {n : Nat} {y : MV} {w : V} (q : RO K c n y w []) : ∀ {xs : List MV} {vs : List V} (i : Nat), ROs K c n xs vs [] → ROs K c n (xs.set i y) (vs.set i w) []
  | [], _, i, h => by
    obtain ⟨rfl, _⟩ := h.inil
    exact .nil
  | x :: xs, _, i, h => by
    obtain ⟨v, vs, rfl, r, t⟩ := h.inv0
    cases i with
    | zero => exact .cons0 q t
    | succ i => exact .cons0 r (ROs.set q i t)
theorem ROs.app {n : Nat} {ys : List MV} {ws : List V} (q : ROs K c n ys ws []) : ∀ {xs : List MV} {vs : List V}, ROs K c n xs vs [] → ROs K c n (xs ++ ys) (vs ++ ws) []
  | [], _, h => by
    obtain ⟨rfl, _⟩ := h.inil
    exact q
  | x :: xs, _, h => by
    obtain ⟨v, vs, rfl, r, t⟩ := h.inv0
    exact .cons0 r (ROs.app q t)
theorem ROs.take {n : Nat} : ∀ {xs : List MV} {vs : List V} (k : Nat), ROs K c n xs vs [] → ROs K c n (xs.take k) (vs.take k) []
  | [], _, k, h => by
    obtain ⟨rfl, _⟩ := h.inil
    rw [List.take_nil, List.take_nil]; exact .nil
  | x :: xs, _, k, h => by
    obtain ⟨v, vs, rfl, r, t⟩ := h.inv0
    cases k with
    | zero => exact .nil
    | succ k => exact .cons0 r (ROs.take k t)
theorem ROs.drop {n : Nat} : ∀ {xs : List MV} {vs : List V} (k : Nat), ROs K c n xs vs [] → ROs K c n (xs.drop k) (vs.drop k) []
  | [], _, k, h => by
    obtain ⟨rfl, _⟩ := h.inil
    rw [List.drop_nil, List.drop_nil]; exact .nil
  | x :: xs, _, k, h => by
    obtain ⟨v, vs, rfl, r, t⟩ := h.inv0
    cases k with
    | zero => exact .cons0 r t
    | succ k => exact ROs.drop k t
theorem ROs.rev {n : Nat} : ∀ {xs : List MV} {vs : List V}, ROs K c n xs vs [] → ROs K c n xs.reverse vs.reverse []
  | [], _, h => by
    obtain ⟨rfl, _⟩ := h.inil
    exact .nil
  | x :: xs, _, h => by
    obtain ⟨v, vs, rfl, r, t⟩ := h.inv0
    rw [List.reverse_cons, List.reverse_cons]
    exact ROs.app (.cons0 r .nil) (ROs.rev t)
theorem ROs.erase {n : Nat} : ∀ {xs : List MV} {vs : List V} (k : Nat), ROs K c n xs vs [] → ROs K c n (xs.eraseIdx k) (vs.eraseIdx k) []
  | [], _, k, h => by
    obtain ⟨rfl, _⟩ := h.inil
    exact .nil
  | x :: xs, _, k, h => by
    obtain ⟨v, vs, rfl, r, t⟩ := h.inv0
    cases k with
    | zero => exact t
    | succ k => exact .cons0 r (ROs.erase k t)
theorem ROs.init {n : Nat} {xs : List MV} {vs : List V} (h : ROs K c n xs vs []) : ROs K c n xs.dropLast vs.dropLast [] := by
  rw [List.dropLast_eq_take, List.dropLast_eq_take, ← h.length]
  exact h.take _
theorem ROs.rep {n : Nat} {xs : List MV} {vs : List V} (h : ROs K c n xs vs []) : ∀ k : Nat, ROs K c n (List.replicate k xs).flatten (List.replicate k vs).flatten []
  | 0 => .nil
  | k + 1 => by
    rw [List.replicate_succ, List.replicate_succ, List.flatten_cons, List.flatten_cons]
    exact ROs.app (ROs.rep h k) h
/-- ints -/
def intsOf : List MV → Option (List Int)
  | [] => some []
  | .int i :: r => (intsOf r).map (i :: ·)
  | _ => none
theorem ROs.ints {n : Nat} : ∀ {xs : List MV} {vs : List V} {ns : List Int}, ROs K c n xs vs [] → intsOf xs = some ns → vs = ns.map V.int
  | [], _, ns, h, e => by
    obtain ⟨rfl, _⟩ := h.inil
    cases e; rfl
  | x :: xs, _, ns, h, e => by
    obtain ⟨v, vs, rfl, r, t⟩ := h.inv0
    cases r with
    | int =>
      rename_i i
      have e : (intsOf xs).map (i :: ·) = some ns := e
      cases q : intsOf xs with
      | none => rw [q] at e; cases e
      | some ms =>
        rw [q] at e; cases e
        rw [ROs.ints t q]; rfl
    | _ => cases e
theorem ROs.of_ints {n : Nat} : ∀ ns : List Int, ROs K c n (ns.map MV.int) (ns.map V.int) []
  | [] => .nil
  | i :: r => .cons0 .int (ROs.of_ints r)
theorem intsOf_map : ∀ ns : List Int, intsOf (ns.map MV.int) = some ns
  | [] => rfl
  | i :: r => by
    show (intsOf (r.map MV.int)).map (i :: ·) = _
    rw [intsOf_map r]; rfl
end
end Mir

namespace Mir
open PySem PySem.Spec L2

/-! ### names and constants -/
def mVar (i : Nat) : M MV := fun s => match s.σ[i]? with
  | some (some v) => if v.stable = true then .ok v s else if v.slotable = true then .ok (.sl i) s else .stuck
  | _ => .stuck
def mMove (i : Nat) : M MV := fun s => match s.σ[i]? with
  | some (some v) => .ok v (s.out i)
  | _ => .stuck
def mC (v : MV) : M MV := mPure v

section
variable {Γ : Gam} {X : Cx} {c0 c : Cfg} {n0 n : Nat} {σ : St} {H : Hp} {p : List (Nat × V)} {s : Sm}

theorem pe_varM {i : Nat} {x : Str} {pos : Pos} (hN : X.N[i]? = some x := by rfl) (hv : Vis X.env.scope x := by first | exact Or.inl rfl | exact Or.inr (Or.inl rfl) | exact Or.inr (Or.inr rfl)) (hd : (x == ("__debug__" : Str)) = false := by decide)
    (hcd : (x == ("__classdict__" : Str)) = false := by decide) : PE X (.Name x pos) (RE Γ (mVar i)) :=
  PE.imp (pe_var hN hv hd hcd) fun σ H Q h => by
    obtain ⟨c, p, s, rfl, R, h⟩ := h
    unfold mVar at h
    split at h
    · rename_i v e
      obtain ⟨u, fp, h1, h2, h3, h4⟩ := R.slot i v e
      refine ⟨u, h1, ?_⟩
      split at h
      · rename_i st
        have := h2.stab st
        subst this
        exact h.val R .refl h2
      · split at h
        · exact h c u [] R .refl (.sl h1) Tmp.nil Fresh.nil
        · exact h.elim
    · exact h.elim
theorem pe_moveM {i : Nat} {x : Str} {pos : Pos} (hN : X.N[i]? = some x := by rfl) (hv : Vis X.env.scope x := by first | exact Or.inl rfl | exact Or.inr (Or.inl rfl) | exact Or.inr (Or.inr rfl)) (hd : (x == ("__debug__" : Str)) = false := by decide)
    (hcd : (x == ("__classdict__" : Str)) = false := by decide) : PE X (.Name x pos) (RE Γ (mMove i)) :=
  PE.imp (pe_var hN hv hd hcd) fun σ H Q h => by
    obtain ⟨c, p, s, rfl, R, h⟩ := h
    unfold mMove at h
    split at h
    · rename_i v e
      obtain ⟨u, fp, h1, h2, h3, h4, h5, h6⟩ := R.take e
      exact ⟨u, h1, h (c.tag fp none) u fp h2 h3 (.val h4) h5 h6⟩
    · exact h.elim
theorem RE_C {v : MV} {u : V} {Q : VK} (r : ∀ K c n, RO K c n v u []) (h : RE Γ (mC v) σ H Q) : Q u H := by
  obtain ⟨c, p, s, rfl, R, h⟩ := h
  exact h.val R .refl (r _ _ _)
theorem pe_intM {i j pos} : PE X (.Constant (.int i) j pos) (RE Γ (mC (.int i))) := PE.imp pe_int fun _ _ _ h => RE_C (fun _ _ _ => .int) h
theorem pe_blM {b j pos} : PE X (.Constant (.bool b) j pos) (RE Γ (mC (.bl b))) := PE.imp pe_bl fun _ _ _ h => RE_C (fun _ _ _ => .bl) h
theorem pe_nonM {j pos} : PE X (.Constant .none j pos) (RE Γ (mC .non)) := PE.imp pe_non fun _ _ _ h => RE_C (fun _ _ _ => .non) h
theorem pe_strM {x j pos} : PE X (.Constant (.str x) j pos) (RE Γ (mC (.str x))) := PE.imp pe_str fun _ _ _ h => RE_C (fun _ _ _ => .str) h
/-- a module's constant that is a scalar -/
theorem pe_globM {x : Str} {v : MV} {w : V} {u : Value} {pos : Pos} (r : ∀ K c n, RO K c n v w []) (hg : Gl X x) (hm : X.mg x = some u) (rv : RelV w u) (hd : (x == ("__debug__" : Str)) = false := by decide) : PE X (.Name x pos) (RE Γ (mC v)) :=
  PE.imp (pe_glob hg hm rv hd) fun _ _ _ h => RE_C r h

/-! ### inversions -/
theorem RX.int {K : PySem.W.Frag} {i : Int} {v : V} {fp : List Addr} (r : RX K c n σ (.int i) v fp) : v = .int i ∧ fp = [] := by
  cases r with
  | val r => cases r; exact ⟨rfl, rfl⟩
theorem RX.bl {K : PySem.W.Frag} {i : Bool} {v : V} {fp : List Addr} (r : RX K c n σ (.bl i) v fp) : v = .bl i ∧ fp = [] := by
  cases r with
  | val r => cases r; exact ⟨rfl, rfl⟩
theorem RX.str {K : PySem.W.Frag} {i : Str} {v : V} {fp : List Addr} (r : RX K c n σ (.str i) v fp) : v = .str i ∧ fp = [] := by
  cases r with
  | val r => cases r; exact ⟨rfl, rfl⟩
theorem RX.non {K : PySem.W.Frag} {v : V} {fp : List Addr} (r : RX K c n σ .non v fp) : v = .non ∧ fp = [] := by
  cases r with
  | val r => cases r; exact ⟨rfl, rfl⟩

/-! ### whole numbers -/
def mulOk (i j : Int) : Bool := decide (i.natAbs < 2 ^ 64) || (decide (j.natAbs < 2 ^ 64) || (decide (i.natAbs < 2 ^ 400000) && decide (j.natAbs < 2 ^ 400000)))
theorem mulOk_ok {i j : Int} (h : mulOk i j = true) : CMul i j ∨ CMulW i j := by
  unfold mulOk at h
  rcases (Bool.or_eq_true _ _).mp h with h | h
  · have := of_decide_eq_true h
    exact .inl (.inl (by omega))
  · rcases (Bool.or_eq_true _ _).mp h with h | h
    · have := of_decide_eq_true h
      exact .inl (.inr (by omega))
    · rw [Bool.and_eq_true] at h
      exact .inr (wide_mul (a := 400000) (b := 400000) (of_decide_eq_true h.1) (of_decide_eq_true h.2) (by decide) (by decide) (by decide))
def onI (g : Int → Int → M MV) (x y : MV) : M MV := match x, y with
  | .int i, .int j => g i j
  | _, _ => fun _ => .stuck
def iMul : MV → MV → M MV := onI fun i j s => if mulOk i j = true then .ok (.int (i * j)) s else .stuck
def iSub : MV → MV → M MV := onI fun i j s => .ok (.int (i - j)) s
/-- divisors above 0 -/
def iDiv : MV → MV → M MV := onI fun i j s => if 0 < j ∧ j.natAbs < 2 ^ 9000 then .ok (.int (i / j)) s else .stuck
def iMod : MV → MV → M MV := onI fun i j s => if 0 < j then .ok (.int (i % j)) s else .stuck
def iPow : MV → MV → M MV := onI fun i j s => if 0 ≤ j ∧ j ≤ 1000000 ∧ i.natAbs < 2 ^ 64 then .ok (.int (i ^ j.toNat)) s else .stuck
def iShl : MV → MV → M MV := onI fun i j s => if 0 ≤ j ∧ j ≤ 1000000 ∧ i.natAbs < 2 ^ 64 then .ok (.int (i * 2 ^ j.toNat)) s else .stuck
/-- by two ints -/
theorem ok2I {r : R2} {g : Int → Int → M MV}
    (h : ∀ c0 n0 c σ p s i j Q, Rel Γ.K c σ p s → Keep c0 n0 c s.h.length → PostE Γ c0 n0 σ p (g i j s) Q → r (.int i) (.int j) c.H Q) : Ok2 Γ r (onI g) := by
  intro c0 n0 c σ p s x y v u f1 f2 Q R k rx ry t f q
  unfold onI at q
  split at q
  · obtain ⟨rfl, rfl⟩ := rx.int
    obtain ⟨rfl, rfl⟩ := ry.int
    exact h c0 n0 c σ p s _ _ Q R k q
  · exact q.elim
theorem PostE.int {i : Int} {Q : VK} (h : PostE Γ c0 n0 σ p (.ok (.int i) s) Q) (R : Rel Γ.K c σ p s) (k : Keep c0 n0 c s.h.length) : Q (.int i) c.H := h.val R k .int
theorem PostE.bl {i : Bool} {Q : VK} (h : PostE Γ c0 n0 σ p (.ok (.bl i) s) Q) (R : Rel Γ.K c σ p s) (k : Keep c0 n0 c s.h.length) : Q (.bl i) c.H := h.val R k .bl
theorem PostE.str {i : Str} {Q : VK} (h : PostE Γ c0 n0 σ p (.ok (.str i) s) Q) (R : Rel Γ.K c σ p s) (k : Keep c0 n0 c s.h.length) : Q (.str i) c.H := h.val R k .str
theorem ok_sub : Ok2 Γ (rI0 fun i j => .int (i - j)) iSub := ok2I fun c0 n0 c σ p s i j Q R k q => ⟨i, j, rfl, rfl, q.int R k⟩
theorem ok_mul : Ok2 Γ (fun x y H Q => rI CMul (fun i j => .int (i * j)) x y H Q ∨ rI CMulW (fun i j => .int (i * j)) x y H Q) iMul := ok2I fun c0 n0 c σ p s i j Q R k q => by
  split at q
  · rename_i h
    rcases mulOk_ok h with h | h
    · exact .inl ⟨i, j, rfl, rfl, h, q.int R k⟩
    · exact .inr ⟨i, j, rfl, rfl, h, q.int R k⟩
  · exact q.elim
theorem ok_div : Ok2 Γ (rI CDivW fun i j => .int (i / j)) iDiv := ok2I fun c0 n0 c σ p s i j Q R k q => by
  split at q
  · rename_i h
    exact ⟨i, j, rfl, rfl, wide_div h.1 h.2 (by decide) (by decide), q.int R k⟩
  · exact q.elim
theorem ok_mod : Ok2 Γ (rI (fun _ j => 0 < j) fun i j => .int (i % j)) iMod := ok2I fun c0 n0 c σ p s i j Q R k q => by
  split at q
  · rename_i h
    exact ⟨i, j, rfl, rfl, h, q.int R k⟩
  · exact q.elim
theorem ok_pow : Ok2 Γ (rI CPow fun i j => .int (i ^ j.toNat)) iPow := ok2I fun c0 n0 c σ p s i j Q R k q => by
  split at q
  · rename_i h
    exact ⟨i, j, rfl, rfl, h, q.int R k⟩
  · exact q.elim
theorem ok_shl : Ok2 Γ (rI CPow fun i j => .int (i * 2 ^ j.toNat)) iShl := ok2I fun c0 n0 c σ p s i j Q R k q => by
  split at q
  · rename_i h
    exact ⟨i, j, rfl, rfl, h, q.int R k⟩
  · exact q.elim
section
variable {a b : Expr} {ta tb : M MV} {pos : Pos}
theorem pe_opM {op : Operator} {r : R2} {g : MV → MV → M MV} (ho : OpR X (binaryOp op) r) (ok : Ok2 Γ r g) (ha : PE X a (RE Γ ta)) (hb : PE X b (RE Γ tb)) : PE X (.BinOp a op b pos) (RE Γ (m2 g ta tb)) :=
  PE.imp (pe_op ho ha hb) fun _ _ _ h => RE_2 ok h
theorem pe_subM (ha : PE X a (RE Γ ta)) (hb : PE X b (RE Γ tb)) : PE X (.BinOp a .Sub b pos) (RE Γ (m2 iSub ta tb)) := pe_opM op_sub ok_sub ha hb
theorem pe_mulM (ha : PE X a (RE Γ ta)) (hb : PE X b (RE Γ tb)) : PE X (.BinOp a .Mult b pos) (RE Γ (m2 iMul ta tb)) := pe_opM (op_mul.or op_mulW) ok_mul ha hb
theorem pe_divM (ha : PE X a (RE Γ ta)) (hb : PE X b (RE Γ tb)) : PE X (.BinOp a .FloorDiv b pos) (RE Γ (m2 iDiv ta tb)) := pe_opM op_fdivW ok_div ha hb
theorem pe_modM (ha : PE X a (RE Γ ta)) (hb : PE X b (RE Γ tb)) : PE X (.BinOp a .Mod b pos) (RE Γ (m2 iMod ta tb)) := pe_opM op_mod ok_mod ha hb
theorem pe_powM (ha : PE X a (RE Γ ta)) (hb : PE X b (RE Γ tb)) : PE X (.BinOp a .Pow b pos) (RE Γ (m2 iPow ta tb)) := pe_opM op_pow ok_pow ha hb
theorem pe_shlM (ha : PE X a (RE Γ ta)) (hb : PE X b (RE Γ tb)) : PE X (.BinOp a .LShift b pos) (RE Γ (m2 iShl ta tb)) := pe_opM op_shl ok_shl ha hb
def iNeg (x : MV) : M MV := match x with
  | .int i => fun s => .ok (.int (-i)) s
  | _ => fun _ => .stuck
theorem ok_neg : Ok1 Γ (rU fun i => .int (-i)) iNeg := fun c0 n0 c σ p s x v fp Q R k rx t f q => by
  unfold iNeg at q
  split at q
  · obtain ⟨rfl, rfl⟩ := rx.int
    exact ⟨_, rfl, q.int R k⟩
  · exact q.elim
theorem pe_negM (ha : PE X a (RE Γ ta)) : PE X (.UnaryOp .USub a pos) (RE Γ (m1 iNeg ta)) := PE.imp (pe_un un_neg ha) fun _ _ _ h => RE_1 ok_neg h

/-! ### + : ints, texts, lists, tuples -/
def oAdd (x y : MV) : M MV := fun s => match x, y with
  | .int i, .int j => .ok (.int (i + j)) s
  | .str i, .str j => if i.length + j.length ≤ sizeLine then .ok (.str (i ++ j)) s else .stuck
  | .tup xs, .tup ys => if xs.length + ys.length ≤ sizeLine then .ok (.tup (xs ++ ys)) s else .stuck
  | x, y => match seqH s x, seqH s y with
    | some xs, some ys => if xs.length + ys.length ≤ sizeLine then .ok (.lst (xs ++ ys)) s else .stuck
    | _, _ => .stuck
def rAddA (K : PySem.W.Frag) : R2 := fun x y H Q => rI0 (fun i j => .int (i + j)) x y H Q ∨ (fun x y H Q => ∃ i j, x = .str i ∧ y = .str j ∧ i.length + j.length ≤ sizeLine ∧ Q (.str (i ++ j)) H : R2) x y H Q ∨ rCatA K x y H Q ∨ rCat x y H Q
theorem op_addA : OpR X (binaryOp .Add) (rAddA X.K) := op_add.or (op_add_str.or (op_catA.or op_cat))
theorem ok_add : Ok2 Γ (rAddA Γ.K) oAdd := by
  intro c0 n0 c σ p s x y v u f1 f2 Q R k rx ry t f q
  unfold oAdd at q
  split at q
  · obtain ⟨rfl, rfl⟩ := rx.int
    obtain ⟨rfl, rfl⟩ := ry.int
    exact .inl ⟨_, _, rfl, rfl, q.int R k⟩
  · obtain ⟨rfl, rfl⟩ := rx.str
    obtain ⟨rfl, rfl⟩ := ry.str
    split at q
    · rename_i h
      exact .inr (.inl ⟨_, _, rfl, rfl, h, q.str R k⟩)
    · exact q.elim
  · split at q
    · rename_i xs ys h
      obtain ⟨a, vs, rfl, h1, h2, rfl⟩ := seqT_ok rx rfl
      obtain ⟨b, ws, rfl, h3, h4, rfl⟩ := seqT_ok ry rfl
      refine .inr (.inr (.inl ⟨a, b, vs, ws, rfl, rfl, h1, h3, by rw [← h2.length, ← h4.length]; exact h, fun e => ?_, fun ne e => ?_, fun n1 n2 z hz => q.tup R k (h4.app h2) hz⟩))
      · subst e
        have : xs = [] := List.eq_nil_of_length_eq_zero h2.length
        subst this
        exact q.val R k (.tup h3 h4)
      · subst e
        have : ys = [] := List.eq_nil_of_length_eq_zero h4.length
        subst this
        rw [List.append_nil] at q
        exact q.val R k (.tup h1 h2)
    · exact q.elim
  · split at q
    · rename_i e1 e2
      obtain ⟨a, vs, rfl, h1, h2⟩ := seqH_ok R rx e1
      obtain ⟨b, ws, rfl, h3, h4⟩ := seqH_ok R ry e2
      split at q
      · rename_i h
        exact .inr (.inr (.inr ⟨a, b, vs, ws, rfl, rfl, h1, h3, by rw [← h2.length, ← h4.length]; exact h, fun z hz => q.lst R k (h4.app h2) hz⟩))
      · exact q.elim
    · exact q.elim
theorem pe_addM (hK : X.K = Γ.K) (ha : PE X a (RE Γ ta)) (hb : PE X b (RE Γ tb)) : PE X (.BinOp a .Add b pos) (RE Γ (m2 oAdd ta tb)) := pe_opM (by rw [← hK]; exact op_addA) ok_add ha hb
end
end
end Mir

namespace Mir
open PySem PySem.Spec L2

section
variable {Γ : Gam} {X : Cx} {c0 c : Cfg} {n0 n : Nat} {σ : St} {H : Hp} {p : List (Nat × V)} {s : Sm}
variable {a b : Expr} {ta tb : M MV} {pos : Pos}

/-! ### tests -/
/-- a value that is True or False, as a test -/
def mT (m : M MV) : M Bool := mBind m fun x => match x with
  | .bl b => mPure b
  | _ => fun _ => .stuck
theorem RT_T {m : M MV} {Q : Bool → Hp → Prop} (h : RT Γ (mT m) σ H Q) : RE Γ m σ H fun x H1 => ∃ k, x = .bl k ∧ Q k H1 := by
  obtain ⟨c, p, s, e, R, h⟩ := h
  refine ⟨c, p, s, e, R, ?_⟩
  unfold mT mBind at h
  revert h
  cases m s with
  | stuck => exact id
  | exc e s1 => exact id
  | ok x s1 =>
    intro h c1 v fp R1 k1 r1 t1 f1
    cases x with
    | bl b =>
      obtain ⟨rfl, rfl⟩ := r1.bl
      exact ⟨b, rfl, h c1 R1 k1⟩
    | _ => exact h.elim
theorem pt_valM {e : Expr} {m : M MV} (h : PE X e (RE Γ m)) (he : ∀ whole, isTrue e X.env whole = (do let v ← whole; standAt e.pos; holding [v] (truthy v)) := by intro _; rfl) : PT X e (RT Γ (mT m)) :=
  PT.imp (pt_val h he) fun σ H Q q => RT_T q
theorem pe_cmpM {op : CmpOp} {r : R2} {g : MV → MV → M MV} (ho : OpR X (compareOp op) r) (ok : Ok2 Γ r g) (ha : PE X a (RE Γ ta)) (hb : PE X b (RE Γ tb)) (hm : behindInMarks op b = false) : PE X (.Compare a [op] [b] pos) (RE Γ (m2 g ta tb)) :=
  PE.imp (pe_cmpR ho ha hb hm) fun _ _ _ h => RE_2 ok h
theorem pt_cmpM {op : CmpOp} {r : R2} {g : MV → MV → M MV} (ho : OpR X (compareOp op) r) (ok : Ok2 Γ r g) (ha : PE X a (RE Γ ta)) (hb : PE X b (RE Γ tb)) (hm : behindInMarks op b = false) : PT X (.Compare a [op] [b] pos) (RT Γ (mT (m2 g ta tb))) :=
  PT.imp (pt_cmpR ho ha hb hm) fun σ H Q q => RE_2 (Q := fun x H' => ∃ k, x = .bl k ∧ Q k H') ok (RT_T q)

/-! and, or, not as tests -/
def tAndM (a b : M Bool) : M Bool := mBind a fun x => if x = true then b else mPure false
def tOrM (a b : M Bool) : M Bool := mBind a fun x => if x = true then mPure true else b
def tNotM (a : M Bool) : M Bool := mBind a fun x => mPure (!x)
variable {e e1 : Expr} {rest : List Expr} {A B : M Bool}
theorem RT_bind {α β : Type} {m : M α} {f : α → M β} {Q : β → Hp → Prop} (h : RT Γ (mBind m f) σ H Q) : RT Γ m σ H fun x H1 => RT Γ (f x) σ H1 Q := by
  obtain ⟨c, p, s, e, R, h⟩ := h
  refine ⟨c, p, s, e, R, ?_⟩
  unfold mBind at h
  revert h
  cases m s with
  | stuck => exact id
  | exc e s1 => exact id
  | ok x s1 =>
    intro h c1 R1 k1
    refine ⟨c1, p, s1, rfl, R1, ?_⟩
    revert h
    dsimp only
    cases f x s1 with
    | stuck => exact id
    | exc e s2 => exact fun h c2 C d R2 k2 x2 => h c2 C d R2 (k1.trans k2) x2
    | ok y s2 => exact fun h c2 R2 k2 => h c2 R2 (k1.trans k2)
theorem RT_pure {α : Type} {x : α} {Q : α → Hp → Prop} (h : RT Γ (mPure x) σ H Q) : Q x H := by
  obtain ⟨c, p, s, rfl, R, h⟩ := h
  exact h c R .refl
theorem pw_and1M (ha : PT X e (RT Γ A)) : PW X (.BoolOp .And [e] pos) (RT Γ A) := pw_and1 ha
theorem pw_or1M (ha : PT X e (RT Γ A)) : PW X (.BoolOp .Or [e] pos) (RT Γ A) := pw_or1 ha
theorem pw_andM (ha : PT X e (RT Γ A)) (hb : PW X (.BoolOp .And (e1 :: rest) pos) (RT Γ B)) : PW X (.BoolOp .And (e :: e1 :: rest) pos) (RT Γ (tAndM A B)) :=
  PW.imp (pw_and ha hb) fun σ H Q h => by
    obtain ⟨c, p, s, e, R, q⟩ := RT_bind h
    refine ⟨c, p, s, e, R, ?_⟩
    revert q
    cases A s with
    | stuck => exact id
    | exc e s1 => exact id
    | ok x s1 =>
      intro q c1 R1 k1
      have := q c1 R1 k1
      cases x with
      | true => exact this
      | false => exact RT_pure this
theorem pw_orM (ha : PT X e (RT Γ A)) (hb : PW X (.BoolOp .Or (e1 :: rest) pos) (RT Γ B)) : PW X (.BoolOp .Or (e :: e1 :: rest) pos) (RT Γ (tOrM A B)) :=
  PW.imp (pw_or ha hb) fun σ H Q h => by
    obtain ⟨c, p, s, e, R, q⟩ := RT_bind h
    refine ⟨c, p, s, e, R, ?_⟩
    revert q
    cases A s with
    | stuck => exact id
    | exc e s1 => exact id
    | ok x s1 =>
      intro q c1 R1 k1
      have := q c1 R1 k1
      cases x with
      | true => exact RT_pure this
      | false => exact this
theorem RT_mono {α : Type} {m : M α} {Q Q' : α → Hp → Prop} (h : RT Γ m σ H Q) (w : ∀ x H', Q x H' → Q' x H') : RT Γ m σ H Q' := by
  obtain ⟨c, p, s, e, R, h⟩ := h
  refine ⟨c, p, s, e, R, ?_⟩
  revert h
  cases m s with
  | stuck => exact id
  | exc e s1 => exact id
  | ok x s1 => exact fun q c1 R1 k1 => w _ _ (q c1 R1 k1)
theorem pt_notM (ha : PT X e (RT Γ A)) : PT X (.UnaryOp .Not e pos) (RT Γ (tNotM A)) :=
  PT.imp (pt_not ha) fun σ H Q h => RT_mono (RT_bind h) fun _ _ => RT_pure
theorem pt_wM (h : PW X e (RT Γ A)) : PT X e (RT Γ A) := h.pt

/-! and, or, not as values, the items True or False -/
def vAnd (a b : M MV) : M MV := mBind a fun x => match x with | .bl true => b | .bl false => mPure (.bl false) | _ => fun _ => .stuck
def vOr (a b : M MV) : M MV := mBind a fun x => match x with | .bl true => mPure (.bl true) | .bl false => b | _ => fun _ => .stuck
def vNot (a : M MV) : M MV := mBind a fun x => match x with | .bl b => mPure (.bl (!b)) | _ => fun _ => .stuck
theorem RE_bindB {m : M MV} {f : MV → M MV} {Q : VK} (h : RE Γ (mBind m f) σ H Q) (hf : ∀ x s, (∀ b, x ≠ .bl b) → f x s = .stuck) : RE Γ m σ H fun v H1 => ∃ b, v = .bl b ∧ RE Γ (f (.bl b)) σ H1 Q := by
  obtain ⟨c, p, s, e, R, h⟩ := h
  refine ⟨c, p, s, e, R, ?_⟩
  unfold mBind at h
  revert h
  cases m s with
  | stuck => exact id
  | exc e s1 => exact id
  | ok x s1 =>
    intro h c1 v fp R1 k1 r1 t1 f1
    dsimp only at h
    by_cases hx : ∃ b, x = .bl b
    · obtain ⟨b, rfl⟩ := hx
      obtain ⟨rfl, rfl⟩ := r1.bl
      refine ⟨b, rfl, c1, p, s1, rfl, R1, ?_⟩
      revert h
      cases f (.bl b) s1 with
      | stuck => exact id
      | exc e s2 => exact fun h c2 C d R2 k2 x2 => h c2 C d R2 (k1.trans k2) x2
      | ok y s2 => exact fun h c2 u fp2 R2 k2 r2 t2 f2 => h c2 u fp2 R2 (k1.trans k2) r2 t2 (f2.back k1)
    · rw [hf x s1 fun b z => hx ⟨b, z⟩] at h
      exact h.elim
theorem RE_mono {m : M MV} {Q Q' : VK} (h : RE Γ m σ H Q) (w : ∀ x H', Q x H' → Q' x H') : RE Γ m σ H Q' := by
  obtain ⟨c, p, s, e, R, h⟩ := h
  refine ⟨c, p, s, e, R, ?_⟩
  revert h
  cases m s with
  | stuck => exact id
  | exc e s1 => exact id
  | ok x s1 => exact fun q c1 v fp R1 k1 r1 t1 f1 => w _ _ (q c1 v fp R1 k1 r1 t1 f1)
theorem pe_oneM {op} {m : M MV} (h : PE X a (RE Γ m)) : PE X (.BoolOp op [a] pos) (RE Γ m) := pe_one h
theorem pe_andM (ha : PE X a (RE Γ ta)) (hb : PE X (.BoolOp .And (b :: rest) pos) (RE Γ tb)) : PE X (.BoolOp .And (a :: b :: rest) pos) (RE Γ (vAnd ta tb)) :=
  PE.imp (pe_and ha hb) fun σ H Q h => RE_mono (RE_bindB h fun x s hx => by split <;> first | rfl | exact absurd rfl (hx _)) fun v H1 ⟨b, e, q⟩ => ⟨b, e, by
    cases b with
    | true => exact q
    | false => exact RE_C (fun _ _ _ => .bl) q⟩
theorem pe_orM (ha : PE X a (RE Γ ta)) (hb : PE X (.BoolOp .Or (b :: rest) pos) (RE Γ tb)) : PE X (.BoolOp .Or (a :: b :: rest) pos) (RE Γ (vOr ta tb)) :=
  PE.imp (pe_or ha hb) fun σ H Q h => RE_mono (RE_bindB h fun x s hx => by split <;> first | rfl | exact absurd rfl (hx _)) fun v H1 ⟨b, e, q⟩ => ⟨b, e, by
    cases b with
    | true => exact RE_C (fun _ _ _ => .bl) q
    | false => exact q⟩
theorem pe_notM (ha : PE X a (RE Γ ta)) : PE X (.UnaryOp .Not a pos) (RE Γ (vNot ta)) :=
  PE.imp (pe_not ha) fun σ H Q h => RE_mono (RE_bindB h fun x s hx => by split <;> first | rfl | exact absurd rfl (hx _)) fun v H1 ⟨b, e, q⟩ => ⟨b, e, RE_C (fun _ _ _ => .bl) q⟩
/-- a if t else b -/
def mIf (t : M Bool) (a b : M MV) : M MV := mBind t fun k => if k = true then a else b
theorem pe_ifM {t : Expr} (ht : PT X t (RT Γ A)) (ha : PE X a (RE Γ ta)) (hb : PE X b (RE Γ tb)) : PE X (.IfExp t a b pos) (RE Γ (mIf A ta tb)) :=
  PE.imp (pe_ifExp ht ha hb) fun σ H Q h => by
    obtain ⟨c, p, s, e, R, h⟩ := h
    refine ⟨c, p, s, e, R, ?_⟩
    unfold mIf mBind at h
    revert h
    cases A s with
    | stuck => exact id
    | exc e s1 => exact id
    | ok x s1 =>
      intro h c1 R1 k1
      dsimp only at h
      have fin : ∀ m : M MV, PostE Γ c s.h.length σ p (m s1) Q → RE Γ m σ c1.H Q := fun m h => by
        refine ⟨c1, p, s1, rfl, R1, ?_⟩
        revert h
        cases m s1 with
        | stuck => exact id
        | exc e s2 => exact fun h c2 C d R2 k2 x2 => h c2 C d R2 (k1.trans k2) x2
        | ok y s2 => exact fun h c2 u fp2 R2 k2 r2 t2 f2 => h c2 u fp2 R2 (k1.trans k2) r2 t2 (f2.back k1)
      cases x with
      | true => exact fin _ h
      | false => exact fin _ h

/-! ### order of whole numbers -/
def iLt : MV → MV → M MV := onI fun i j s => .ok (.bl (decide (i < j))) s
def iLe : MV → MV → M MV := onI fun i j s => .ok (.bl (decide (i ≤ j))) s
def iGt : MV → MV → M MV := onI fun i j s => .ok (.bl (decide (j < i))) s
def iGe : MV → MV → M MV := onI fun i j s => .ok (.bl (decide (j ≤ i))) s
theorem ok_lt : Ok2 Γ (rI0 fun i j => .bl (decide (i < j))) iLt := ok2I fun c0 n0 c σ p s i j Q R k q => ⟨i, j, rfl, rfl, q.bl R k⟩
theorem ok_le : Ok2 Γ (rI0 fun i j => .bl (decide (i ≤ j))) iLe := ok2I fun c0 n0 c σ p s i j Q R k q => ⟨i, j, rfl, rfl, q.bl R k⟩
theorem ok_gt : Ok2 Γ (rI0 fun i j => .bl (decide (j < i))) iGt := ok2I fun c0 n0 c σ p s i j Q R k q => ⟨i, j, rfl, rfl, q.bl R k⟩
theorem ok_ge : Ok2 Γ (rI0 fun i j => .bl (decide (j ≤ i))) iGe := ok2I fun c0 n0 c σ p s i j Q R k q => ⟨i, j, rfl, rfl, q.bl R k⟩
/-! is None -/
def isNon : MV → Bool
  | .non => true
  | _ => false
theorem isNon_ok {K : PySem.W.Frag} {x : MV} {v : V} {fp : List Addr} (r : RO K c n x v fp) : decide (v = .non) = isNon x := by
  cases r <;> simp [isNon]
def oIsN (x y : MV) : M MV := match y with
  | .non => fun s => match x with | .sl _ => .stuck | x => .ok (.bl (isNon x)) s
  | _ => fun _ => .stuck
def oNotN (x y : MV) : M MV := match y with
  | .non => fun s => match x with | .sl _ => .stuck | x => .ok (.bl (!isNon x)) s
  | _ => fun _ => .stuck
theorem ok_isN : Ok2 Γ (fun x y H Q => y = .non ∧ Q (.bl (decide (x = .non))) H) oIsN := fun c0 n0 c σ p s x y v u f1 f2 Q R k rx ry t f q => by
  unfold oIsN at q
  split at q
  · obtain ⟨rfl, rfl⟩ := ry.non
    split at q
    · exact q.elim
    · rename_i hx
      rw [isNon_ok (rx.ro fun i e => hx i e)]
      exact ⟨rfl, q.bl R k⟩
  · exact q.elim
theorem ok_notN : Ok2 Γ (fun x y H Q => y = .non ∧ Q (.bl (!decide (x = .non))) H) oNotN := fun c0 n0 c σ p s x y v u f1 f2 Q R k rx ry t f q => by
  unfold oNotN at q
  split at q
  · obtain ⟨rfl, rfl⟩ := ry.non
    split at q
    · exact q.elim
    · rename_i hx
      rw [isNon_ok (rx.ro fun i e => hx i e)]
      exact ⟨rfl, q.bl R k⟩
  · exact q.elim

/-! ### data: ==, in -/
mutual
def MV.dat : MV → Option PyData
  | .non => some .none
  | .bl b => some (.bool b)
  | .int i => some (.int i)
  | .str x => some (.str x)
  | .tup xs => (MV.dats xs).map .tuple
  | .ro xs => (MV.dats xs).map .list
  | .ext xs => (MV.dats xs).map .list
  | .lst xs => (MV.dats xs).map .list
  | _ => none
def MV.dats : List MV → Option (List PyData)
  | [] => some []
  | x :: xs => match MV.dat x, MV.dats xs with
    | some d, some ds => some (d :: ds)
    | _, _ => none
end
def datOf (s : Sm) (x : MV) : Option PyData := match lget s x with
  | some xs => (MV.dats xs).map .list
  | none => MV.dat x
variable {K : PySem.W.Frag}
mutual
theorem RO.dat : ∀ {x : MV} {v : V} {fp : List Addr} {d : PyData}, RO K c n x v fp → x.dat = some d → Dp K c.H v d ∧ d.plain = true
  | _, _, _, _, .non, e => by cases e; exact ⟨.non, rfl⟩
  | _, _, _, _, .bl, e => by cases e; exact ⟨.bl _, rfl⟩
  | _, _, _, _, .int, e => by cases e; exact ⟨.int _, rfl⟩
  | _, _, _, _, .str, e => by cases e; exact ⟨.str _, rfl⟩
  | _, _, _, _, .ty, e => by cases e
  | _, _, _, _, .ref _, e => by cases e
  | _, _, _, _, .tupo _ _, e => by cases e
  | _, _, _, d, .tup h r, e => by
    rename_i xs _ _
    have e : (MV.dats xs).map PyData.tuple = some d := e
    obtain ⟨ds, e1, e2⟩ := Option.map_eq_some_iff.mp e
    subst e2
    obtain ⟨p, q⟩ := ROs.dat r e1
    exact ⟨.tup h p, q⟩
  | .ro xs, _, _, d, .ro h _ r, e => by
    have e : (MV.dats xs).map PyData.list = some d := e
    obtain ⟨ds, e1, e2⟩ := Option.map_eq_some_iff.mp e
    subst e2
    obtain ⟨p, q⟩ := ROs.dat r e1
    exact ⟨.lst (SqL.of h) p, q⟩
  | _, _, _, d, .ext h r, e => by
    rename_i xs _ _
    have e : (MV.dats xs).map PyData.list = some d := e
    obtain ⟨ds, e1, e2⟩ := Option.map_eq_some_iff.mp e
    subst e2
    obtain ⟨p, q⟩ := ROs.dat r e1
    exact ⟨.lst h.sq p, q⟩
  | _, _, _, d, .lst h r, e => by
    rename_i xs _ _
    have e : (MV.dats xs).map PyData.list = some d := e
    obtain ⟨ds, e1, e2⟩ := Option.map_eq_some_iff.mp e
    subst e2
    obtain ⟨p, q⟩ := ROs.dat r e1
    exact ⟨.lst (SqL.of h) p, q⟩
theorem ROs.dat : ∀ {xs : List MV} {vs : List V} {fp : List Addr} {ds : List PyData}, ROs K c n xs vs fp → MV.dats xs = some ds → DpAll K c.H vs ds ∧ PyData.plainAll ds = true
  | _, _, _, _, .nil, e => by cases e; exact ⟨.nil, rfl⟩
  | _, _, _, _, .cons r t, e => by
    rename_i x v xs vs f g
    have e : (match MV.dat x, MV.dats xs with | some d, some ds => some (d :: ds) | _, _ => none) = some _ := e
    split at e
    · rename_i d ds e1 e2
      cases e
      obtain ⟨p1, q1⟩ := RO.dat r e1
      obtain ⟨p2, q2⟩ := ROs.dat t e2
      exact ⟨.cons p1 p2, by show (PyData.plain d && PyData.plainAll ds) = true; rw [q1, q2]; rfl⟩
    · cases e
end
theorem datOf_ok {x : MV} {v : V} {fp : List Addr} {d : PyData} (R : Rel K c σ p s) (r : RX K c s.h.length σ x v fp) (e : datOf s x = some d) : Dp K c.H v d ∧ d.plain = true := by
  unfold datOf at e
  split at e
  · rename_i xs el
    obtain ⟨a, vs, rfl, h1, h2, _⟩ := lget_ok R r el
    obtain ⟨ds, e1, e2⟩ := Option.map_eq_some_iff.mp e
    subst e2
    obtain ⟨p, q⟩ := h2.dat e1
    exact ⟨.lst (SqL.of h1) p, q⟩
  · cases r with
    | val r => exact r.dat e
    | sl h => cases e
def rEqP (K : PySem.W.Frag) : R2 := fun x y H Q => ∃ d e, Dp K H x d ∧ Dp K H y e ∧ d.plain = true ∧ e.plain = true ∧ min d.depth e.depth ≤ 190 ∧ Q (.bl (PyData.eqv d e)) H
def rNeP (K : PySem.W.Frag) : R2 := fun x y H Q => ∃ d e, Dp K H x d ∧ Dp K H y e ∧ d.plain = true ∧ e.plain = true ∧ min d.depth e.depth ≤ 190 ∧ Q (.bl (!PyData.eqv d e)) H
theorem op_eqP (hu : X.A.units + 200 < cLine) : OpR X (compareOp .Eq) (rEqP X.K) := by
  intro pins s σ H x y v u Q I rx ry h
  obtain ⟨d, e, hd, he, sd, se, z, q⟩ := h
  obtain ⟨as, r1⟩ := Dp.reads I d x v hd rx
  obtain ⟨bs, r2⟩ := Dp.reads I e y u he ry
  exact SeqAt.eq_plain r1 r2 sd se (by omega) ⟨.bl _, H, I, rfl, q⟩
theorem op_neP (hu : X.A.units + 200 < cLine) : OpR X (compareOp .NotEq) (rNeP X.K) := by
  intro pins s σ H x y v u Q I rx ry h
  obtain ⟨d, e, hd, he, sd, se, z, q⟩ := h
  obtain ⟨as, r1⟩ := Dp.reads I d x v hd rx
  obtain ⟨bs, r2⟩ := Dp.reads I e y u he ry
  exact SeqAt.ne_plain r1 r2 sd se (by omega) ⟨.bl _, H, I, rfl, q⟩
/-- the mirror's == -/
def eqM (s : Sm) (x y : MV) : Option Bool := match x, y with
  | .int i, .int j => some (decide (i = j))
  | .str i, .str j => some (decide (i = j))
  | x, y => match datOf s x, datOf s y with
    | some d, some e => if min d.depth e.depth ≤ 190 then some (PyData.eqv d e) else none
    | _, _ => none
def oEq (x y : MV) : M MV := fun s => match eqM s x y with
  | some b => .ok (.bl b) s
  | none => .stuck
def oNe (x y : MV) : M MV := fun s => match eqM s x y with
  | some b => .ok (.bl (!b)) s
  | none => .stuck
theorem eqM_ok {x y : MV} {v u : V} {f1 f2 : List Addr} {b : Bool} (R : Rel K c σ p s) (rx : RX K c s.h.length σ x v f1) (ry : RX K c s.h.length σ y u f2) (e : eqM s x y = some b) :
    ∃ d e, Dp K c.H v d ∧ Dp K c.H u e ∧ d.plain = true ∧ e.plain = true ∧ min d.depth e.depth ≤ 190 ∧ PyData.eqv d e = b := by
  unfold eqM at e
  split at e
  · cases e
    obtain ⟨rfl, rfl⟩ := rx.int
    obtain ⟨rfl, rfl⟩ := ry.int
    refine ⟨_, _, .int _, .int _, rfl, rfl, by simp [PyData.depth], ?_⟩
    simp [PyData.eqv]
    rw [Bool.eq_iff_iff]; simp
  · cases e
    obtain ⟨rfl, rfl⟩ := rx.str
    obtain ⟨rfl, rfl⟩ := ry.str
    refine ⟨_, _, .str _, .str _, rfl, rfl, by simp [PyData.depth], ?_⟩
    simp [PyData.eqv]
    rw [Bool.eq_iff_iff]; simp
  · split at e
    · rename_i e1 e2
      split at e
      · rename_i z
        cases e
        obtain ⟨p1, q1⟩ := datOf_ok R rx e1
        obtain ⟨p2, q2⟩ := datOf_ok R ry e2
        exact ⟨_, _, p1, p2, q1, q2, z, rfl⟩
      · cases e
    · cases e
theorem ok_eq : Ok2 Γ (rEqP Γ.K) oEq := fun c0 n0 c σ p s x y v u f1 f2 Q R k rx ry t f q => by
  unfold oEq at q
  split at q
  · rename_i b e
    obtain ⟨d, d2, h1, h2, h3, h4, h5, rfl⟩ := eqM_ok R rx ry e
    exact ⟨d, d2, h1, h2, h3, h4, h5, q.bl R k⟩
  · exact q.elim
theorem ok_ne : Ok2 Γ (rNeP Γ.K) oNe := fun c0 n0 c σ p s x y v u f1 f2 Q R k rx ry t f q => by
  unfold oNe at q
  split at q
  · rename_i b e
    obtain ⟨d, d2, h1, h2, h3, h4, h5, rfl⟩ := eqM_ok R rx ry e
    exact ⟨d, d2, h1, h2, h3, h4, h5, q.bl R k⟩
  · exact q.elim
/-! in -/
def inOf (s : Sm) (y : MV) : Option (List MV) := match seqL s y with
  | some xs => some xs
  | none => seqT y
def inM (s : Sm) (x y : MV) : Option Bool := match datOf s x, inOf s y with
  | some d, some ys => match MV.dats ys with
    | some ds => if d.depth ≤ 190 then some (ds.any fun z => PyData.eqv z d) else none
    | none => none
  | _, _ => none
def rInP (K : PySem.W.Frag) (neg : Bool) : R2 := fun x y H Q => ∃ d ds, Dp K H x d ∧ (Dp K H y (.list ds) ∨ Dp K H y (.tuple ds)) ∧ d.plain = true ∧ PyData.plainAll ds = true ∧ d.depth ≤ 190 ∧ Q (.bl (if neg = true then !(ds.any fun z => PyData.eqv z d) else ds.any fun z => PyData.eqv z d)) H
theorem op_inP (hu : X.A.units + 200 < cLine) : OpR X (compareOp .In) (rInP X.K false) := by
  intro pins s σ H x y v u Q I rx ry h
  obtain ⟨d, ds, hd, he, sd, se, z, q⟩ := h
  obtain ⟨as, r1⟩ := Dp.reads I d x v hd rx
  rcases he with he | he
  · obtain ⟨bs, r2⟩ := Dp.reads I (.list ds) y u he ry
    exact SeqAt.in_list_data r2 r1 se sd (by omega) ⟨.bl _, H, I, rfl, q⟩
  · obtain ⟨bs, r2⟩ := Dp.reads I (.tuple ds) y u he ry
    exact SeqAt.in_tuple_data r2 r1 se sd (by omega) ⟨.bl _, H, I, rfl, q⟩
theorem op_ninP (hu : X.A.units + 200 < cLine) : OpR X (compareOp .NotIn) (rInP X.K true) := by
  intro pins s σ H x y v u Q I rx ry h
  obtain ⟨d, ds, hd, he, sd, se, z, q⟩ := h
  obtain ⟨as, r1⟩ := Dp.reads I d x v hd rx
  rcases he with he | he
  · obtain ⟨bs, r2⟩ := Dp.reads I (.list ds) y u he ry
    exact SeqAt.notIn_list_data r2 r1 se sd (by omega) ⟨.bl _, H, I, rfl, q⟩
  · obtain ⟨bs, r2⟩ := Dp.reads I (.tuple ds) y u he ry
    exact SeqAt.notIn_tuple_data r2 r1 se sd (by omega) ⟨.bl _, H, I, rfl, q⟩
theorem inM_ok {x y : MV} {v u : V} {f1 f2 : List Addr} {b : Bool} (R : Rel K c σ p s) (rx : RX K c s.h.length σ x v f1) (ry : RX K c s.h.length σ y u f2) (e : inM s x y = some b) :
    ∃ d ds, Dp K c.H v d ∧ (Dp K c.H u (.list ds) ∨ Dp K c.H u (.tuple ds)) ∧ d.plain = true ∧ PyData.plainAll ds = true ∧ d.depth ≤ 190 ∧ (ds.any fun z => PyData.eqv z d) = b := by
  unfold inM at e
  split at e
  · rename_i d ys e1 e2
    split at e
    · rename_i ds e3
      split at e
      · rename_i z
        cases e
        obtain ⟨p1, q1⟩ := datOf_ok R rx e1
        unfold inOf at e2
        split at e2
        · rename_i ys' e4
          cases e2
          obtain ⟨a, vs, rfl, h1, h2⟩ := seqL_ok R ry e4
          obtain ⟨p2, q2⟩ := h2.dat e3
          exact ⟨d, ds, p1, .inl (.lst h1 p2), q1, q2, z, rfl⟩
        · obtain ⟨a, vs, rfl, h1, h2, _⟩ := seqT_ok ry e2
          obtain ⟨p2, q2⟩ := h2.dat e3
          exact ⟨d, ds, p1, .inr (.tup h1 p2), q1, q2, z, rfl⟩
      · cases e
    · cases e
  · cases e
def oIn (x y : MV) : M MV := fun s => match inM s x y with
  | some b => .ok (.bl b) s
  | none => .stuck
def oNin (x y : MV) : M MV := fun s => match inM s x y with
  | some b => .ok (.bl (!b)) s
  | none => .stuck
theorem ok_in : Ok2 Γ (rInP Γ.K false) oIn := fun c0 n0 c σ p s x y v u f1 f2 Q R k rx ry t f q => by
  unfold oIn at q
  split at q
  · rename_i b e
    obtain ⟨d, d2, h1, h2, h3, h4, h5, rfl⟩ := inM_ok R rx ry e
    exact ⟨d, d2, h1, h2, h3, h4, h5, q.bl R k⟩
  · exact q.elim
theorem ok_nin : Ok2 Γ (rInP Γ.K true) oNin := fun c0 n0 c σ p s x y v u f1 f2 Q R k rx ry t f q => by
  unfold oNin at q
  split at q
  · rename_i b e
    obtain ⟨d, d2, h1, h2, h3, h4, h5, rfl⟩ := inM_ok R rx ry e
    exact ⟨d, d2, h1, h2, h3, h4, h5, q.bl R k⟩
  · exact q.elim
end
end Mir

namespace Mir
open PySem PySem.Spec L2

section
variable {Γ : Gam} {X : Cx} {c0 c : Cfg} {n0 n : Nat} {σ : St} {H : Hp} {p : List (Nat × V)} {s : Sm}
variable {a b e : Expr} {es : List Expr} {ta tb : M MV} {tl : M (List MV)} {pos : Pos}
variable {K : PySem.W.Frag}

/-! ### displays; lists that are frozen, laid -/
def gTupM (xs : List MV) : M MV := fun s => if xs.all MV.stable = true ∧ xs.length ≤ sizeLine then .ok (.tup xs) s else .stuck
def gLstM (xs : List MV) : M MV := fun s => if xs.all MV.stable = true ∧ xs.length ≤ sizeLine then .ok (.lst xs) s else .stuck
/-- a tuple that holds lists of its own -/
def gTupOM (xs : List MV) : M MV := fun s => if (xs.all fun x => match x with | .sl _ => false | _ => true) = true ∧ xs.length ≤ sizeLine then .ok (.tupo xs) s else .stuck
theorem RXs.stab : ∀ {xs : List MV} {vs : List V} {fp : List Addr}, RXs K c n σ xs vs fp → xs.all MV.stable = true → ROs K c n xs vs [] ∧ fp = []
  | _, _, _, .nil, _ => ⟨.nil, rfl⟩
  | _, _, _, .cons r t, h => by
    rw [List.all_cons, Bool.and_eq_true] at h
    obtain ⟨rfl, r'⟩ := r.stab h.1
    obtain ⟨t', rfl⟩ := RXs.stab t h.2
    exact ⟨.cons0 r' t', rfl⟩
theorem RXs.nosl : ∀ {xs : List MV} {vs : List V} {fp : List Addr}, RXs K c n σ xs vs fp → (xs.all fun x => match x with | .sl _ => false | _ => true) = true → ROs K c n xs vs fp
  | _, _, _, .nil, _ => .nil
  | _, _, _, .cons r t, h => by
    rw [List.all_cons, Bool.and_eq_true] at h
    refine .cons (r.ro fun i e => ?_) (RXs.nosl t h.2)
    subst e
    exact absurd h.1 Bool.false_ne_true
theorem RXs.length : ∀ {xs : List MV} {vs : List V} {fp : List Addr}, RXs K c n σ xs vs fp → xs.length = vs.length
  | _, _, _, .nil => rfl
  | _, _, _, .cons _ t => congrArg (· + 1) (RXs.length t)
theorem ok_tup : Ok Γ (fun vs H Q => vs.length ≤ sizeLine ∧ ∀ q, H q = none → Q (.ref q) (upd H q (.tup vs))) gTupM := fun c0 n0 c σ p s xs vs fp Q R k r t f q => by
  unfold gTupM at q
  split at q
  · rename_i h
    obtain ⟨r', rfl⟩ := r.stab h.1
    exact ⟨by rw [← r.length]; exact h.2, fun z hz => q.tup R k r' hz⟩
  · exact q.elim
theorem ok_lst : Ok Γ (fun vs H Q => vs.length ≤ sizeLine ∧ ∀ q, H q = none → Q (.ref q) (upd H q (.lst vs))) gLstM := fun c0 n0 c σ p s xs vs fp Q R k r t f q => by
  unfold gLstM at q
  split at q
  · rename_i h
    obtain ⟨r', rfl⟩ := r.stab h.1
    exact ⟨by rw [← r.length]; exact h.2, fun z hz => q.lst R k r' hz⟩
  · exact q.elim
theorem ok_tupo : Ok Γ (fun vs H Q => vs.length ≤ sizeLine ∧ ∀ q, H q = none → Q (.ref q) (upd H q (.tup vs))) gTupOM := fun c0 n0 c σ p s xs vs fp Q R k r t f q => by
  unfold gTupOM at q
  split at q
  · rename_i h
    have r' := r.nosl h.1
    refine ⟨by rw [← r.length]; exact h.2, fun z hz => ?_⟩
    have k1 : Keep c s.h.length (c.new z (.tup vs)) s.h.length := keep_new hz
    obtain ⟨t', st⟩ := t.stay r.at k1
    exact q (c.new z (.tup vs)) (.ref z) fp (R.new hz) (k.trans k1) (.val (.tupo (SqT.of upd_same) (r'.keep R.mok k1 st))) t' f
  · exact q.elim
theorem pe_tupM {x1} (h : PA X es (RL Γ tl)) : PE X (.Tuple es x1 pos) (RE Γ (mL gTupM tl)) := PE.imp (pe_tup h) fun _ _ _ q => RE_L ok_tup q
theorem pe_tupoM {x1} (h : PA X es (RL Γ tl)) : PE X (.Tuple es x1 pos) (RE Γ (mL gTupOM tl)) := PE.imp (pe_tup h) fun _ _ _ q => RE_L ok_tupo q
theorem pe_lstM (h : PA X es (RL Γ tl)) : PE X (.List es pos) (RE Γ (mL gLstM tl)) := PE.imp (pe_lst h) fun _ _ _ q => RE_L ok_lst q
def gFrz (x : MV) : M MV := fun s => match x with
  | .lst xs => .ok (.ro xs) s
  | _ => .stuck
def gBox (x : MV) : M MV := fun s => match x with
  | .lst xs => .ok (.ref s.h.length) (s.lay (.lst xs))
  | _ => .stuck
theorem ok_frz : Ok1 Γ (fun v H Q => Q v H) gFrz := fun c0 n0 c σ p s x v fp Q R k r t f q => by
  unfold gFrz at q
  split at q
  · obtain ⟨R1, k1, r1⟩ := R.freeze k (r.ro fun i e => by cases e) t f
    exact q (c.tag fp (some .fro)) v [] R1 k1 (.val r1) Tmp.nil Fresh.nil
  · exact q.elim
theorem ok_box : Ok1 Γ (fun v H Q => Q v H) gBox := fun c0 n0 c σ p s x v fp Q R k r t f q => by
  unfold gBox at q
  split at q
  · obtain ⟨c', e, R1, k1, r1⟩ := R.box k (r.ro fun i e => by cases e) t f
    rw [← e]
    exact q c' v [] R1 k1 (.val r1) Tmp.nil Fresh.nil
  · exact q.elim
theorem pe_frzM (h : PE X e (RE Γ ta)) : PE X e (RE Γ (m1 gFrz ta)) := PE.imp h fun _ _ _ q => RE_1 ok_frz q
theorem pe_boxM (h : PE X e (RE Γ ta)) : PE X e (RE Γ (m1 gBox ta)) := PE.imp h fun _ _ _ q => RE_1 ok_box q

/-! ### items -/
theorem ROs.atI {xs : List MV} {vs : List V} {i : Int} {x : MV} (r : ROs K c n xs vs []) (e : L2.atI xs i = some x) : ∃ v, L2.atI vs i = some v ∧ RO K c n x v [] := by
  unfold L2.atI at e ⊢
  rw [← r.length]
  cases h : ixN xs.length i with
  | none => rw [h] at e; cases e
  | some j =>
    rw [h] at e
    exact r.get e
def oIx (x y : MV) : M MV := match y with
  | .int i => fun s => match x with
    | .str z => if z.length ≤ sizeLine then (match L2.atI z.cps.toList i with | some c => .ok (.str ⟨#[c]⟩) s | none => .stuck) else .stuck
    | .tup xs => match L2.atI xs i with | some v => .ok v s | none => .stuck
    | x => match seqL s x with
      | some xs => (match L2.atI xs i with | some v => .ok v s | none => .stuck)
      | none => .stuck
  | _ => fun _ => .stuck
theorem ok_ix : Ok2 Γ (rIx Γ.K) oIx := fun c0 n0 c σ p s x y v u f1 f2 Q R k rx ry t f q => by
  unfold oIx at q
  split at q
  · obtain ⟨rfl, rfl⟩ := ry.int
    split at q
    · obtain ⟨rfl, rfl⟩ := rx.str
      split at q
      · rename_i hz
        split at q
        · rename_i z hc
          exact .inr (.inr ⟨_, _, _, rfl, rfl, hz, hc, q.str R k⟩)
        · exact q.elim
      · exact q.elim
    · split at q
      · rename_i w e
        obtain ⟨a, vs, rfl, h1, h2, rfl⟩ := seqT_ok rx rfl
        obtain ⟨w', e1, r1⟩ := h2.atI e
        exact .inr (.inl ⟨a, vs, _, w', rfl, rfl, h1, e1, q.val R k r1⟩)
      · exact q.elim
    · split at q
      · rename_i xs e0
        split at q
        · rename_i w e
          obtain ⟨a, vs, rfl, h1, h2⟩ := seqL_ok R rx e0
          obtain ⟨w', e1, r1⟩ := h2.atI e
          exact .inl ⟨a, vs, _, w', rfl, rfl, h1, e1, q.val R k r1⟩
        · exact q.elim
      · exact q.elim
  · exact q.elim
theorem pe_ixM (hK : X.K = Γ.K) (ha : PE X a (RE Γ ta)) (hb : PE X b (RE Γ tb)) (hs : PlainIx b := by exact fun _ _ => rfl) : PE X (.Subscript a b pos) (RE Γ (m2 oIx ta tb)) :=
  PE.imp (pe_ix (by rw [← hK]; exact ix_seq) ha hb hs) fun _ _ _ h => RE_2 ok_ix h

/-! ### slices -/
def mPart : Option (M MV) → M (Option Int)
  | none => mPure none
  | some m => mBind m fun x => match x with
    | .int i => mPure (some i)
    | _ => fun _ => .stuck
theorem po_noneM : PO X none (RT Γ (mPart none)) := ⟨fun pins s σ H Q I q => po_none.run pins s σ H Q I (RT_pure q)⟩
theorem po_someM (h : PE X e (RE Γ ta)) : PO X (some e) (RT Γ (mPart (some ta))) := ⟨fun pins s σ H Q I q => (po_some h).run pins s σ H Q I (by
  obtain ⟨c, p, s, e, R, h⟩ := q
  refine ⟨c, p, s, e, R, ?_⟩
  unfold mPart mBind at h
  revert h
  dsimp only
  cases ta s with
  | stuck => exact id
  | exc e s1 => exact id
  | ok x s1 =>
    intro h c1 v fp R1 k1 r1 t1 f1
    cases x with
    | int i =>
      obtain ⟨rfl, rfl⟩ := r1.int
      exact ⟨i, rfl, h c1 R1 k1⟩
    | _ => exact h.elim)⟩
/-- the cut of a list of values -/
def cutM (xs : List MV) (lo hi : Option Int) : List MV := (xs.drop (HT.sIx xs.length 0 lo)).take (HT.sIx xs.length xs.length hi - HT.sIx xs.length 0 lo)
theorem cutM_ok {xs : List MV} {vs : List V} (r : ROs K c n xs vs []) (lo hi : Option Int) : ROs K c n (cutM xs lo hi) (cutV vs lo hi) [] := by
  unfold cutM cutV
  rw [r.length]
  exact (r.drop _).take _
def oSl (x : MV) (lo hi : Option Int) : M MV := fun s => match x with
  | .str z => if z.length ≤ sizeLine then .ok (.str (Txt.slice z lo hi)) s else .stuck
  | .tup xs => .ok (.tup (cutM xs lo hi)) s
  | x => match seqL s x with
    | some xs => .ok (.lst (cutM xs lo hi)) s
    | none => .stuck
def mSl (a : M MV) (lo hi : Option (M MV)) : M MV := mBind a fun x => mBind (mPart lo) fun l => mBind (mPart hi) fun h => oSl x l h
def rSlM (K : PySem.W.Frag) : V → Option Int → Option Int → Hp → VK → Prop := fun x lo hi H Q => C8.rSlX x lo hi H Q ∨ rSlA K x lo hi H Q ∨ rSlL K x lo hi H Q
theorem sl_M : SlR X (rSlM X.K) := C8.sl_txt.or (sl_tupA.or sl_list)
/-- three in a row: a value, two parts -/
theorem pe_slM (hK : X.K = Γ.K) {lo hi : Option Expr} {ml mh : Option (M MV)} {p2 : Pos} (ha : PE X a (RE Γ ta)) (hl : PO X lo (RT Γ (mPart ml))) (hh : PO X hi (RT Γ (mPart mh))) : PE X (.Subscript a (.Slice lo hi none p2) pos) (RE Γ (mSl ta ml mh)) :=
  PE.imp (pe_slice (sl_M (X := X)) ha hl hh) fun σ H Q h => by
    obtain ⟨c, p, s, e, R, h⟩ := h
    refine ⟨c, p, s, e, R, ?_⟩
    unfold mSl mBind at h
    revert h
    cases ta s with
    | stuck => exact id
    | exc e s1 => exact id
    | ok x s1 =>
      intro h c1 v fp R1 k1 r1 t1 f1
      dsimp only at h
      refine ⟨c1, p, s1, rfl, R1, ?_⟩
      revert h
      cases mPart ml s1 with
      | stuck => exact id
      | exc e s2 => exact fun h c2 C d R2 k2 x2 => h c2 C d R2 (k1.trans k2) x2
      | ok l s2 =>
        intro h c2 R2 k2
        dsimp only at h
        refine ⟨c2, p, s2, rfl, R2, ?_⟩
        revert h
        cases mPart mh s2 with
        | stuck => exact id
        | exc e s3 => exact fun h c3 C d R3 k3 x3 => h c3 C d R3 ((k1.trans k2).trans k3) x3
        | ok u s3 =>
          intro q c3 R3 k3
          have k : Keep c s.h.length c3 s3.h.length := (k1.trans k2).trans k3
          obtain ⟨t3, st⟩ := t1.stay r1.at (k2.trans k3)
          have r3 := r1.keep R1.mok (k2.trans k3) st
          dsimp only at q
          rw [hK]
          unfold oSl at q
          split at q
          · obtain ⟨rfl, rfl⟩ := r3.str
            split at q
            · rename_i hz
              exact .inl ⟨_, rfl, hz, q.str R3 k⟩
            · exact q.elim
          · obtain ⟨a', vs, rfl, h1, h2, rfl⟩ := seqT_ok r3 rfl
            rename_i xs
            refine .inr (.inl ⟨a', vs, rfl, h1, fun hw => ?_, fun hw z hz => q.tup R3 k (cutM_ok h2 _ _) hz⟩)
            have e1 : cutM xs l u = xs := by
              unfold cutM
              rw [h2.length, hw.1, hw.2, ← h2.length]
              simp
            rw [e1] at q
            exact q.val R3 k (.tup h1 h2)
          · split at q
            · rename_i xs e0
              obtain ⟨a', vs, rfl, h1, h2⟩ := seqL_ok R3 r3 e0
              exact .inr (.inr ⟨a', vs, rfl, h1, fun z hz => q.lst R3 k (cutM_ok h2 _ _) hz⟩)
            · exact q.elim

/-! ### built-ins by name -/
def OkL (Γ : Gam) (r : List V → Hp → VK → Prop) (f : List MV → M MV) : Prop := Ok Γ r f
theorem pe_bM {x : Str} {id : String} {r : List V → Hp → VK → Prop} {f : List MV → M MV} {p : Pos} (hc : CallR X (.builtin id) r) (ok : Ok Γ r f) (hg : Gl X x) (hm : X.mg x = none) (hv : bootBuiltins x = some (.builtin id)) (ha : PA X (e :: es) (RL Γ tl)) (hn : x ≠ "__name__" := by decide) (hdb : (x == ("__debug__" : Str)) = false := by decide)
    (he : starEach (e :: es) X.env = (false, eval e X.env) :: starEach es X.env := by rfl) (hpl : (backTo pos (starEach es X.env)).any (·.1) = false := by rfl) : PE X (.Call (.Name x p) (e :: es) [] pos) (RE Γ (mL f tl)) :=
  PE.imp (pe_callB hc hg hm hv ha hn hdb he hpl) fun _ _ _ h => RE_L ok h
theorem pe_tyM {x : Str} {T : String} {r : List V → Hp → VK → Prop} {f : List MV → M MV} {p : Pos} (hc : CallR X (.type T) r) (ok : Ok Γ r f) (hg : Gl X x) (hm : X.mg x = none) (hv : bootBuiltins x = some (.type T)) (ha : PA X (e :: es) (RL Γ tl)) (hn : x ≠ "__name__" := by decide) (hdb : (x == ("__debug__" : Str)) = false := by decide)
    (he : starEach (e :: es) X.env = (false, eval e X.env) :: starEach es X.env := by rfl) (hpl : (backTo pos (starEach es X.env)).any (·.1) = false := by rfl) : PE X (.Call (.Name x p) (e :: es) [] pos) (RE Γ (mL f tl)) :=
  PE.imp (pe_callTy hc hg hm hv ha hn hdb he hpl) fun _ _ _ h => RE_L ok h
/-- one argument -/
def onL (g : MV → M MV) : List MV → M MV
  | [x] => g x
  | _ => fun _ => .stuck
def onL2 (g : MV → MV → M MV) : List MV → M MV
  | [x, y] => g x y
  | _ => fun _ => .stuck
theorem okL1 {r : List V → Hp → VK → Prop} {g : MV → M MV} (h : Ok1 Γ (fun v H Q => r [v] H Q) g) : Ok Γ r (onL g) := fun c0 n0 c σ p s xs vs fp Q R k r t f q => by
  cases r with
  | nil => exact q.elim
  | cons r1 t1 =>
    cases t1 with
    | nil =>
      rw [List.append_nil] at t f
      exact h c0 n0 c σ p s _ _ _ Q R k r1 t f q
    | cons _ _ => exact q.elim
theorem okL2 {r : List V → Hp → VK → Prop} {g : MV → MV → M MV} (h : Ok2 Γ (fun v u H Q => r [v, u] H Q) g) : Ok Γ r (onL2 g) := fun c0 n0 c σ p s xs vs fp Q R k r t f q => by
  cases r with
  | nil => exact q.elim
  | cons r1 t1 =>
    cases t1 with
    | nil => exact q.elim
    | cons r2 t2 =>
      cases t2 with
      | nil =>
        rw [List.append_nil] at t f
        exact h c0 n0 c σ p s _ _ _ _ _ _ Q R k r1 r2 t f q
      | cons _ _ => exact q.elim
/-! len -/
def gLen (x : MV) : M MV := fun s => match x with
  | .str z => if z.length ≤ sizeLine then .ok (.int z.length) s else .stuck
  | .tup xs => .ok (.int xs.length) s
  | x => match seqL s x with
    | some xs => .ok (.int xs.length) s
    | none => .stuck
def rLenM (K : PySem.W.Frag) : List V → Hp → VK → Prop := fun xs H Q => (∃ p ys, xs = [.ref p] ∧ (SqL K H p ys ∨ SqT K H p ys) ∧ Q (.int ys.length) H) ∨ ∃ z, xs = [.str z] ∧ z.length ≤ sizeLine ∧ Q (.int z.length) H
theorem cr_len : CallR X (.builtin "len") (rLenM X.K) := call_len_seq.or call_len_str
theorem ok_len : Ok1 Γ (fun v H Q => rLenM Γ.K [v] H Q) gLen := fun c0 n0 c σ p s x v fp Q R k r t f q => by
  unfold gLen at q
  split at q
  · obtain ⟨rfl, rfl⟩ := r.str
    split at q
    · rename_i hz
      exact .inr ⟨_, rfl, hz, q.int R k⟩
    · exact q.elim
  · obtain ⟨a, vs, rfl, h1, h2, rfl⟩ := seqT_ok r rfl
    exact .inl ⟨a, vs, rfl, .inr h1, by rw [← h2.length]; exact q.int R k⟩
  · split at q
    · rename_i xs e0
      obtain ⟨a, vs, rfl, h1, h2⟩ := seqL_ok R r e0
      exact .inl ⟨a, vs, rfl, .inl h1, by rw [← h2.length]; exact q.int R k⟩
    · exact q.elim
theorem pe_lenM (hK : X.K = Γ.K) {p : Pos} (hg : Gl X "len") (hm : X.mg "len" = none) (ha : PA X [e] (RL Γ tl)) (he : starEach [e] X.env = (false, eval e X.env) :: starEach [] X.env := by rfl) : PE X (.Call (.Name "len" p) [e] [] pos) (RE Γ (mL (onL gLen) tl)) :=
  pe_bM (by rw [← hK]; exact cr_len) (okL1 ok_len) hg hm PySem.boot_len ha (he := he)
/-! abs, int, str of ints -/
def gAbs (x : MV) : M MV := match x with
  | .int i => fun s => .ok (.int (if i < 0 then -i else i)) s
  | _ => fun _ => .stuck
theorem ok_abs : Ok1 Γ (fun v H Q => ∃ i, [v] = [.int i] ∧ Q (.int (if i < 0 then -i else i)) H) gAbs := fun c0 n0 c σ p s x v fp Q R k r t f q => by
  unfold gAbs at q
  split at q
  · obtain ⟨rfl, rfl⟩ := r.int
    exact ⟨_, rfl, q.int R k⟩
  · exact q.elim
def gInt (x : MV) : M MV := match x with
  | .int i => fun s => .ok (.int i) s
  | .bl b => fun s => .ok (.int (if b then 1 else 0)) s
  | _ => fun _ => .stuck
theorem ok_int : Ok1 Γ (fun v H Q => (∃ i, [v] = [.int i] ∧ Q (.int i) H) ∨ ∃ k, [v] = [.bl k] ∧ Q (.int (if k then 1 else 0)) H) gInt := fun c0 n0 c σ p s x v fp Q R k r t f q => by
  unfold gInt at q
  split at q
  · obtain ⟨rfl, rfl⟩ := r.int
    exact .inl ⟨_, rfl, q.int R k⟩
  · obtain ⟨rfl, rfl⟩ := r.bl
    exact .inr ⟨_, rfl, q.int R k⟩
  · exact q.elim
/-! max, min of two -/
def gMax2 : MV → MV → M MV := onI fun i j s => .ok (.int (if j > i then j else i)) s
def gMin2 : MV → MV → M MV := onI fun i j s => .ok (.int (if j < i then j else i)) s
theorem ok_max2 : Ok2 Γ (fun v u H Q => ∃ i j, [v, u] = [.int i, .int j] ∧ Q (.int (if j > i then j else i)) H) gMax2 := ok2I fun c0 n0 c σ p s i j Q R k q => ⟨i, j, rfl, q.int R k⟩
theorem ok_min2 : Ok2 Γ (fun v u H Q => ∃ i j, [v, u] = [.int i, .int j] ∧ Q (.int (if j < i then j else i)) H) gMin2 := ok2I fun c0 n0 c σ p s i j Q R k q => ⟨i, j, rfl, q.int R k⟩
/-! sum, max, min of ints -/
def seqA (s : Sm) (x : MV) : Option (List MV) := match seqT x with
  | some xs => some xs
  | none => seqL s x
def rSumT (K : PySem.W.Frag) : List V → Hp → VK → Prop := fun vs H Q => ∃ (a : Addr) (ns : List Int), vs = [V.ref a] ∧ SqT K H a (ns.map V.int) ∧ Q (.int ns.sum) H
theorem cr_sumT (hc : X.calm = true) : CallR X (.builtin "sum") (rSumT X.K) := by
  intro pins s σ H vs us Q I r h
  obtain ⟨a, ns, rfl, hs, q⟩ := h
  obtain ⟨its, rv, hl, _⟩ := I.tuple hs
  rw [Vals.ref1 r]
  have hi := rv.ints
  obtain ⟨xs, e⟩ := hi.allInts.items
  have hn : PySem.numsOf (PySem.intItems xs).toList = ns := by rw [← e]; exact hi.numsOf
  rw [PySem.nums_intItems] at hn
  have hl' : s.heap.IsTuple a its.toArray := hl
  rw [e] at hl'
  refine PySem.W.ktm_sumG (I.ok.hd hc) hl' fun h' tk t' hk => ⟨.int _, H, I.kept hk, ⟨_, rfl⟩, ?_⟩
  rw [PySem.preSum_eq, List.take_of_length_le (by simp), hn]
  exact q
def gSum (x : MV) : M MV := fun s => match seqA s x with
  | some xs => (match intsOf xs with | some ns => .ok (.int ns.sum) s | none => .stuck)
  | none => .stuck
theorem seqA_ok {x : MV} {v : V} {fp : List Addr} {xs : List MV} (R : Rel K c σ p s) (r : RX K c s.h.length σ x v fp) (e : seqA s x = some xs) : ∃ a vs, v = .ref a ∧ (SqT K c.H a vs ∨ SqL K c.H a vs) ∧ ROs K c s.h.length xs vs [] := by
  unfold seqA at e
  split at e
  · rename_i e0
    cases e
    obtain ⟨a, vs, e1, h1, h2, _⟩ := seqT_ok r e0
    exact ⟨a, vs, e1, .inl h1, h2⟩
  · obtain ⟨a, vs, e1, h1, h2⟩ := seqL_ok R r e
    exact ⟨a, vs, e1, .inr h1, h2⟩
def rSumM (K : PySem.W.Frag) : List V → Hp → VK → Prop := fun vs H Q => rSum K vs H Q ∨ rSumT K vs H Q
theorem cr_sumM (hc : X.calm = true) : CallR X (.builtin "sum") (rSumM X.K) := (cr_sum hc).or (cr_sumT hc)
theorem ok_sum : Ok1 Γ (fun v H Q => rSumM Γ.K [v] H Q) gSum := fun c0 n0 c σ p s x v fp Q R k r t f q => by
  unfold gSum at q
  split at q
  · rename_i xs e0
    split at q
    · rename_i ns e1
      obtain ⟨a, vs, rfl, h1, h2⟩ := seqA_ok R r e0
      have := h2.ints e1
      subst this
      rcases h1 with h1 | h1
      · exact .inr ⟨a, ns, rfl, h1, q.int R k⟩
      · exact .inl ⟨a, ns, rfl, h1, q.int R k⟩
    · exact q.elim
  · exact q.elim
/-- the greatest, the least -/
def maxI : List Int → Int
  | [] => 0
  | x :: xs => xs.foldl max x
def minI : List Int → Int
  | [] => 0
  | x :: xs => xs.foldl min x
theorem foldl_max (xs : List Int) : ∀ x : Int, x ≤ xs.foldl max x ∧ (∀ y ∈ xs, y ≤ xs.foldl max x) ∧ (xs.foldl max x = x ∨ xs.foldl max x ∈ xs) := by
  induction xs with
  | nil => exact fun x => ⟨Int.le_refl _, fun _ z => absurd z (by simp), .inl rfl⟩
  | cons y ys ih =>
    intro x
    obtain ⟨h1, h2, h3⟩ := ih (max x y)
    refine ⟨by show x ≤ ys.foldl max (max x y); omega, fun z hz => ?_, ?_⟩
    · show z ≤ ys.foldl max (max x y)
      rcases List.mem_cons.mp hz with rfl | hz
      · omega
      · exact h2 z hz
    · show ys.foldl max (max x y) = x ∨ ys.foldl max (max x y) ∈ y :: ys
      rcases h3 with h3 | h3
      · rw [h3]
        rcases Int.le_total x y with h | h
        · right; rw [Int.max_eq_right h]; exact List.mem_cons_self
        · left; exact Int.max_eq_left h
      · exact .inr (List.mem_cons_of_mem _ h3)
theorem foldl_min (xs : List Int) : ∀ x : Int, xs.foldl min x ≤ x ∧ (∀ y ∈ xs, xs.foldl min x ≤ y) ∧ (xs.foldl min x = x ∨ xs.foldl min x ∈ xs) := by
  induction xs with
  | nil => exact fun x => ⟨Int.le_refl _, fun _ z => absurd z (by simp), .inl rfl⟩
  | cons y ys ih =>
    intro x
    obtain ⟨h1, h2, h3⟩ := ih (min x y)
    refine ⟨by show ys.foldl min (min x y) ≤ x; omega, fun z hz => ?_, ?_⟩
    · show ys.foldl min (min x y) ≤ z
      rcases List.mem_cons.mp hz with rfl | hz
      · omega
      · exact h2 z hz
    · show ys.foldl min (min x y) = x ∨ ys.foldl min (min x y) ∈ y :: ys
      rcases h3 with h3 | h3
      · rw [h3]
        rcases Int.le_total x y with h | h
        · left; exact Int.min_eq_left h
        · right; rw [Int.min_eq_right h]; exact List.mem_cons_self
      · exact .inr (List.mem_cons_of_mem _ h3)
theorem maxI_mem {ns : List Int} (h : ns ≠ []) : maxI ns ∈ ns := by
  cases ns with
  | nil => exact absurd rfl h
  | cons x xs =>
    rcases (foldl_max xs x).2.2 with e | e
    · show xs.foldl max x ∈ _; rw [e]; exact List.mem_cons_self
    · exact List.mem_cons_of_mem _ e
theorem le_maxI {ns : List Int} : ∀ y ∈ ns, y ≤ maxI ns := by
  cases ns with
  | nil => exact fun _ z => nomatch z
  | cons x xs =>
    intro y hy
    rcases List.mem_cons.mp hy with rfl | hy
    · exact (foldl_max xs _).1
    · exact (foldl_max xs x).2.1 y hy
theorem minI_mem {ns : List Int} (h : ns ≠ []) : minI ns ∈ ns := by
  cases ns with
  | nil => exact absurd rfl h
  | cons x xs =>
    rcases (foldl_min xs x).2.2 with e | e
    · show xs.foldl min x ∈ _; rw [e]; exact List.mem_cons_self
    · exact List.mem_cons_of_mem _ e
theorem minI_le {ns : List Int} : ∀ y ∈ ns, minI ns ≤ y := by
  cases ns with
  | nil => exact fun _ z => nomatch z
  | cons x xs =>
    intro y hy
    rcases List.mem_cons.mp hy with rfl | hy
    · exact (foldl_min xs _).1
    · exact (foldl_min xs x).2.1 y hy
def gMaxL (x : MV) : M MV := fun s => match seqL s x with
  | some xs => (match intsOf xs with | some (n :: ns) => .ok (.int (maxI (n :: ns))) s | _ => .stuck)
  | none => .stuck
def gMinL (x : MV) : M MV := fun s => match seqL s x with
  | some xs => (match intsOf xs with | some (n :: ns) => .ok (.int (minI (n :: ns))) s | _ => .stuck)
  | none => .stuck
theorem ok_maxL : Ok1 Γ (fun v H Q => rMax Γ.K [v] H Q) gMaxL := fun c0 n0 c σ p s x v fp Q R k r t f q => by
  unfold gMaxL at q
  split at q
  · rename_i xs e0
    split at q
    · rename_i n ns e1
      obtain ⟨a, vs, rfl, h1, h2⟩ := seqL_ok R r e0
      have := h2.ints e1
      subst this
      refine ⟨a, n :: ns, rfl, h1, Nat.succ_pos _, fun m hm h => ?_⟩
      have : m = maxI (n :: ns) := Int.le_antisymm (le_maxI m hm) (h _ (maxI_mem (by simp)))
      rw [this]
      exact q.int R k
    · exact q.elim
  · exact q.elim
theorem ok_minL : Ok1 Γ (fun v H Q => rMin Γ.K [v] H Q) gMinL := fun c0 n0 c σ p s x v fp Q R k r t f q => by
  unfold gMinL at q
  split at q
  · rename_i xs e0
    split at q
    · rename_i n ns e1
      obtain ⟨a, vs, rfl, h1, h2⟩ := seqL_ok R r e0
      have := h2.ints e1
      subst this
      refine ⟨a, n :: ns, rfl, h1, Nat.succ_pos _, fun m hm h => ?_⟩
      have : m = minI (n :: ns) := Int.le_antisymm (h _ (minI_mem (by simp))) (minI_le m hm)
      rw [this]
      exact q.int R k
    · exact q.elim
  · exact q.elim
/-! list(..), tuple(..) -/
def gList (x : MV) : M MV := fun s => match seqA s x with
  | some xs => .ok (.lst xs) s
  | none => .stuck
def rListM (K : PySem.W.Frag) : List V → Hp → VK → Prop := fun xs H Q => ∃ p ys, xs = [.ref p] ∧ (SqL K H p ys ∨ SqT K H p ys) ∧ ∀ l, H l = none → Q (.ref l) (upd H l (.lst ys))
theorem cr_list : CallR X (.type "list") (rListM X.K) := call_list_of
theorem ok_list : Ok1 Γ (fun v H Q => rListM Γ.K [v] H Q) gList := fun c0 n0 c σ p s x v fp Q R k r t f q => by
  unfold gList at q
  split at q
  · rename_i xs e0
    obtain ⟨a, vs, rfl, h1, h2⟩ := seqA_ok R r e0
    exact ⟨a, vs, rfl, h1.symm, fun z hz => q.lst R k h2 hz⟩
  · exact q.elim
def gTuple (x : MV) : M MV := fun s => match x with
  | .tup xs => .ok (.tup xs) s
  | x => match seqL s x with
    | some xs => .ok (.tup xs) s
    | none => .stuck
def rTupleM (K : PySem.W.Frag) : List V → Hp → VK → Prop := fun xs H Q => ∃ p ys, xs = [.ref p] ∧ ((SqL K H p ys ∧ ∀ l, H l = none → Q (.ref l) (upd H l (.tup ys))) ∨ (SqT K H p ys ∧ Q (.ref p) H))
theorem cr_tuple : CallR X (.type "tuple") (rTupleM X.K) := call_tuple_of
theorem ok_tuple : Ok1 Γ (fun v H Q => rTupleM Γ.K [v] H Q) gTuple := fun c0 n0 c σ p s x v fp Q R k r t f q => by
  unfold gTuple at q
  split at q
  · obtain ⟨a, vs, rfl, h1, h2, rfl⟩ := seqT_ok r rfl
    exact ⟨a, vs, rfl, .inr ⟨h1, q.val R k (.tup h1 h2)⟩⟩
  · split at q
    · rename_i xs e0
      obtain ⟨a, vs, rfl, h1, h2⟩ := seqL_ok R r e0
      exact ⟨a, vs, rfl, .inl ⟨h1, fun z hz => q.tup R k h2 hz⟩⟩
    · exact q.elim
section
variable {pp : Pos} (hK : X.K = Γ.K) (he : starEach [e] X.env = (false, eval e X.env) :: starEach [] X.env)
include he
theorem pe_absM (hg : Gl X "abs") (hm : X.mg "abs" = none) (ha : PA X [e] (RL Γ tl)) : PE X (.Call (.Name "abs" pp) [e] [] pos) (RE Γ (mL (onL gAbs) tl)) := pe_bM call_abs (okL1 ok_abs) hg hm (by decide +kernel) ha (he := he)
theorem pe_intcM (hg : Gl X "int") (hm : X.mg "int" = none) (ha : PA X [e] (RL Γ tl)) : PE X (.Call (.Name "int" pp) [e] [] pos) (RE Γ (mL (onL gInt) tl)) := pe_tyM call_int1 (okL1 ok_int) hg hm (by decide +kernel) ha (he := he)
include hK
theorem pe_sumM (hc : X.calm = true) (hg : Gl X "sum") (hm : X.mg "sum" = none) (ha : PA X [e] (RL Γ tl)) : PE X (.Call (.Name "sum" pp) [e] [] pos) (RE Γ (mL (onL gSum) tl)) := pe_bM (by rw [← hK]; exact cr_sumM hc) (okL1 ok_sum) hg hm (by decide +kernel) ha (he := he)
theorem pe_maxLM (hc : X.calm = true) (hg : Gl X "max") (hm : X.mg "max" = none) (ha : PA X [e] (RL Γ tl)) : PE X (.Call (.Name "max" pp) [e] [] pos) (RE Γ (mL (onL gMaxL) tl)) := pe_bM (by rw [← hK]; exact cr_max hc) (okL1 ok_maxL) hg hm (by decide +kernel) ha (he := he)
theorem pe_minLM (hc : X.calm = true) (hg : Gl X "min") (hm : X.mg "min" = none) (ha : PA X [e] (RL Γ tl)) : PE X (.Call (.Name "min" pp) [e] [] pos) (RE Γ (mL (onL gMinL) tl)) := pe_bM (by rw [← hK]; exact cr_min hc) (okL1 ok_minL) hg hm (by decide +kernel) ha (he := he)
theorem pe_listM (hg : Gl X "list") (hm : X.mg "list" = none) (ha : PA X [e] (RL Γ tl)) : PE X (.Call (.Name "list" pp) [e] [] pos) (RE Γ (mL (onL gList) tl)) := pe_tyM (r := rListM Γ.K) (by rw [← hK]; exact cr_list) (okL1 ok_list) hg hm (by decide +kernel) ha (he := he)
theorem pe_tupleM (hg : Gl X "tuple") (hm : X.mg "tuple" = none) (ha : PA X [e] (RL Γ tl)) : PE X (.Call (.Name "tuple" pp) [e] [] pos) (RE Γ (mL (onL gTuple) tl)) := pe_tyM (r := rTupleM Γ.K) (by rw [← hK]; exact cr_tuple) (okL1 ok_tuple) hg hm (by decide +kernel) ha (he := he)
end
theorem pe_max2M {a b : Expr} {pp : Pos} (hc : X.calm = true) (hg : Gl X "max") (hm : X.mg "max" = none) (ha : PA X [a, b] (RL Γ tl)) (he : starEach [a, b] X.env = (false, eval a X.env) :: starEach [b] X.env) (hpl : (backTo pos (starEach [b] X.env)).any (·.1) = false) : PE X (.Call (.Name "max" pp) [a, b] [] pos) (RE Γ (mL (onL2 gMax2) tl)) :=
  pe_bM (call_max2 hc) (okL2 ok_max2) hg hm (by decide +kernel) ha (he := he) (hpl := hpl)
theorem pe_min2M {a b : Expr} {pp : Pos} (hc : X.calm = true) (hg : Gl X "min") (hm : X.mg "min" = none) (ha : PA X [a, b] (RL Γ tl)) (he : starEach [a, b] X.env = (false, eval a X.env) :: starEach [b] X.env) (hpl : (backTo pos (starEach [b] X.env)).any (·.1) = false) : PE X (.Call (.Name "min" pp) [a, b] [] pos) (RE Γ (mL (onL2 gMin2) tl)) :=
  pe_bM (call_min2 hc) (okL2 ok_min2) hg hm (by decide +kernel) ha (he := he) (hpl := hpl)
end
end Mir

namespace Mir
open PySem PySem.Spec L2

section
variable {Γ : Gam} {X : Cx} {c0 c : Cfg} {n0 n : Nat} {σ : St} {H : Hp} {p : List (Nat × V)} {s : Sm}
variable {a b e : Expr} {es : List Expr} {ta tb : M MV} {tl : M (List MV)} {pos : Pos}
variable {K : PySem.W.Frag}

/-! ### methods of built-in types -/
def OkM (Γ : Gam) (r : V → List V → Hp → VK → Prop) (g : MV → List MV → M MV) : Prop :=
  ∀ c0 n0 c σ p s x v f1 xs vs f2 Q, Rel Γ.K c σ p s → Keep c0 n0 c s.h.length → RX Γ.K c s.h.length σ x v f1 → RXs Γ.K c s.h.length σ xs vs f2 → Tmp c (f1 ++ f2) → Fresh c0 (f1 ++ f2) → PostE Γ c0 n0 σ p (g x xs s) Q → r v vs c.H Q
def mM (ok : Sm → MV → Bool) (g : MV → List MV → M MV) (a : M MV) (tl : M (List MV)) : M MV := mBind a fun x s => if ok s x = true then mBind tl (fun xs => g x xs) s else .stuck
def isL (s : Sm) (x : MV) : Bool := (seqL s x).isSome
def isS (_ : Sm) : MV → Bool
  | .str _ => true
  | _ => false
def TyOk (K : PySem.W.Frag) (T : String) (ok : Sm → MV → Bool) : Prop := ∀ c σ p s x v fp, Rel K c σ p s → RX K c s.h.length σ x v fp → ok s x = true → tyV K T v c.H
theorem ty_list : TyOk K "list" isL := fun c σ p s x v fp R r h => by
  unfold isL at h
  obtain ⟨xs, e⟩ := Option.isSome_iff_exists.mp h
  obtain ⟨a, vs, rfl, h1, _⟩ := seqL_ok R r e
  exact .inl ⟨rfl, _, h1⟩
theorem ty_str : TyOk K "str" isS := fun c σ p s x v fp R r h => by
  cases x <;> first | cases h | skip
  obtain ⟨rfl, _⟩ := r.str
  exact rfl
theorem RE_M {T : String} {ok : Sm → MV → Bool} {g : MV → List MV → M MV} {r : V → List V → Hp → VK → Prop} {Q : VK} (ty : TyOk Γ.K T ok) (og : OkM Γ r g) (h : RE Γ (mM ok g ta tl) σ H Q) :
    RE Γ ta σ H fun x H1 => tyV Γ.K T x H1 ∧ RL Γ tl σ H1 fun xs H2 => r x xs H2 Q := by
  obtain ⟨c, p, s, e, R, h⟩ := h
  refine ⟨c, p, s, e, R, ?_⟩
  unfold mM mBind at h
  revert h
  cases ta s with
  | stuck => exact id
  | exc e s1 => exact id
  | ok x s1 =>
    intro h c1 v fp R1 k1 r1 t1 f1
    dsimp only at h
    split at h
    · rename_i hx
      refine ⟨ty c1 σ p s1 x v fp R1 r1 hx, c1, p, s1, rfl, R1, ?_⟩
      revert h
      cases tl s1 with
      | stuck => exact id
      | exc e s2 => exact fun h c2 C d R2 k2 x2 => h c2 C d R2 (k1.trans k2) x2
      | ok xs s2 =>
        intro h c2 us fp2 R2 k2 r2 t2 f2
        obtain ⟨t1', st⟩ := t1.stay r1.at k2
        exact og c s.h.length c2 σ p s2 x v fp xs us fp2 Q R2 (k1.trans k2) (r1.keep R1.mok k2 st) r2 (t1'.app t2 (apart t1 r1.at f2)) (f1.app (f2.back k1)) h
    · exact h.elim
theorem pe_mM {o : Expr} {name : Str} {apos cpos : Pos} {T id : String} {r : V → List V → Hp → VK → Prop} {ok : Sm → MV → Bool} {g : MV → List MV → M MV} (hK : X.K = Γ.K) (ty : TyOk Γ.K T ok) (og : OkM Γ r g)
    (pa : PlainAttrs T) (slot : Slot T name id) (hty : typeOf (.builtin id) = pure (.type "method_descriptor")) (hm : MtR X id r) (ho : PE X o (RE Γ ta)) (ha : PA X (e :: es) (RL Γ tl))
    (hbase : attributeBase o name X.env (eval o X.env) = eval o X.env := by rfl)
    (hfew : ((backTo cpos (starEach (e :: es) X.env)).all (fun x => !x.1) && (backToKw cpos (keywordEach [] X.env)).all (fun x => x.1.isSome)
      && decide ((e :: es).length + ([] : List Keyword).length + (if ([] : List Keyword).isEmpty then 0 else 1) < 30)) = true := by rfl)
    (hline : (apos.endLine == cpos.line) = true := by rfl) (hs : starEach (e :: es) X.env = (false, eval e X.env) :: starEach es X.env := by rfl) (hplain : (backTo cpos (starEach es X.env)).any (·.1) = false := by rfl) :
    PE X (.Call (.Attribute o name apos) (e :: es) [] cpos) (RE Γ (mM ok g ta tl)) :=
  PE.imp (pe_bm pa slot hty hm ho ha hbase hfew hline hs hplain) fun _ _ _ h => by rw [hK]; exact RE_M ty og h
theorem pe_m0M {o : Expr} {name : Str} {apos cpos : Pos} {T id : String} {r : V → List V → Hp → VK → Prop} {ok : Sm → MV → Bool} {g : MV → List MV → M MV} (hK : X.K = Γ.K) (ty : TyOk Γ.K T ok) (og : OkM Γ r g)
    (pa : PlainAttrs T) (slot : Slot T name id) (hty : typeOf (.builtin id) = pure (.type "method_descriptor")) (hm : MtR X id r) (ho : PE X o (RE Γ ta))
    (hbase : attributeBase o name X.env (eval o X.env) = eval o X.env := by rfl) (hline : (apos.endLine == cpos.line) = true := by rfl) : PE X (.Call (.Attribute o name apos) [] [] cpos) (RE Γ (mM ok g ta mNil)) :=
  PE.imp (pe_bm0 pa slot hty hm ho hbase hline) fun _ _ _ h => by
    rw [hK]
    refine RE_mono (RE_M ty og h) fun x H1 ⟨h1, h2⟩ => ⟨h1, ?_⟩
    obtain ⟨c, p, s, rfl, R, h2⟩ := h2
    exact h2 c [] [] R .refl .nil Tmp.nil Fresh.nil
/-! lists' methods -/
def gApp (x : MV) (ys : List MV) : M MV := match ys with
  | [y] => fun s => match lget s x with
    | some xs => if y.stable = true ∧ xs.length < sizeLine then .ok .non (lset s x (xs ++ [y])) else .stuck
    | none => .stuck
  | _ => fun _ => .stuck
theorem ok_app : OkM Γ rAppend gApp := fun c0 n0 c σ p s x v f1 xs vs f2 Q R k rx rs t f q => by
  unfold gApp at q
  split at q
  · cases rs with
    | cons ry rt =>
      cases rt
      split at q
      · rename_i ws e0
        split at q
        · rename_i h
          obtain ⟨rfl, ry'⟩ := ry.stab h.1
          obtain ⟨a, us, rfl, h1, h2, _⟩ := lget_ok R rx e0
          exact ⟨a, us, _, rfl, rfl, h1, by rw [← h2.length]; exact h.2, q.set R k rx e0 (ROs.app (.cons0 ry' .nil) h2) .non⟩
        · exact q.elim
      · exact q.elim
  · exact q.elim
def gExt (x : MV) (ys : List MV) : M MV := match ys with
  | [y] => fun s => match lget s x, seqH s y with
    | some xs, some zs => if xs.length + zs.length ≤ sizeLine then .ok .non (lset s x (xs ++ zs)) else .stuck
    | _, _ => .stuck
  | _ => fun _ => .stuck
theorem ok_ext : OkM Γ rExtend gExt := fun c0 n0 c σ p s x v f1 xs vs f2 Q R k rx rs t f q => by
  unfold gExt at q
  split at q
  · cases rs with
    | cons ry rt =>
      cases rt
      split at q
      · rename_i ws zs e0 e1
        split at q
        · rename_i h
          obtain ⟨a, us, rfl, h1, h2, _⟩ := lget_ok R rx e0
          obtain ⟨b, us', rfl, h3, h4⟩ := seqH_ok R ry e1
          exact ⟨a, b, us, us', rfl, rfl, h1, h3, by rw [← h2.length, ← h4.length]; exact h, q.set R k rx e0 (ROs.app h4 h2) .non⟩
        · exact q.elim
      · exact q.elim
  · exact q.elim
def gPop (x : MV) (ys : List MV) : M MV := match ys with
  | [] => fun s => match lget s x with
    | some xs => (match xs[xs.length - 1]? with | some y => .ok y (lset s x xs.dropLast) | none => .stuck)
    | none => .stuck
  | _ => fun _ => .stuck
theorem ok_pop : OkM Γ rPop gPop := fun c0 n0 c σ p s x v f1 xs vs f2 Q R k rx rs t f q => by
  unfold gPop at q
  split at q
  · cases rs
    split at q
    · rename_i ws e0
      split at q
      · rename_i y e1
        obtain ⟨a, us, rfl, h1, h2, _⟩ := lget_ok R rx e0
        obtain ⟨w, h3, h4⟩ := h2.get e1
        exact ⟨a, us, w, rfl, rfl, h1, by rw [← h2.length]; exact h3, q.set R k rx e0 h2.init h4⟩
      · exact q.elim
    · exact q.elim
  · exact q.elim
/-- pop at a place from the left -/
def gPopAt (x : MV) (ys : List MV) : M MV := match ys with
  | [.int i] => fun s => match lget s x with
    | some xs => (match xs[i.toNat]? with | some y => if 0 ≤ i ∧ i < 2 ^ 63 then .ok y (lset s x (xs.eraseIdx i.toNat)) else .stuck | none => .stuck)
    | none => .stuck
  | _ => fun _ => .stuck
theorem ok_popAt : OkM Γ rPopAt gPopAt := fun c0 n0 c σ p s x v f1 xs vs f2 Q R k rx rs t f q => by
  unfold gPopAt at q
  split at q
  · cases rs with
    | cons ry rt =>
      cases rt
      obtain ⟨rfl, rfl⟩ := ry.int
      split at q
      · rename_i ws e0
        split at q
        · rename_i y e1
          split at q
          · rename_i hi
            obtain ⟨a, us, rfl, h1, h2, _⟩ := lget_ok R rx e0
            obtain ⟨w, h3, h4⟩ := h2.get e1
            have hl := (List.getElem?_eq_some_iff.mp h3).1
            exact ⟨a, us, _, _, w, rfl, rfl, h1, by omega, hi.2, seqIndex_of hi.1 (by omega), h3, q.set R k rx e0 (h2.erase _) h4⟩
          · exact q.elim
        · exact q.elim
      · exact q.elim
  · exact q.elim

/-! ### targets -/
def PostG (Γ : Gam) (c : Cfg) (n : Nat) (p : List (Nat × V)) (r : Out) (Q : St → Hp → Prop) : Prop := match r with
  | .nx s' => ∀ c' σ', Rel Γ.K c' σ' p s' → Keep c n c' s'.h.length → Q σ' c'.H
  | _ => False
def RG (Γ : Gam) (t : MV → MS) : TG := fun v σ H Q => ∃ c0 n0 c p s x fp, c.H = H ∧ Rel Γ.K c σ p s ∧ Keep c0 n0 c s.h.length ∧ RX Γ.K c s.h.length σ x v fp ∧ Tmp c fp ∧ Fresh c0 fp ∧ PostG Γ c0 n0 p (t x s) Q
def tgName (i : Nat) (x : MV) : MS := fun s => if x.slotable = true ∧ i ∉ s.pin then .nx (s.put i x) else .stuck
theorem pg_nameM {i : Nat} {x : Str} (hN : X.N.Nodup) (hi : X.N[i]? = some x) (hx : Loc X.env.scope x) (hf : X.fn x = true ∨ X.env.scope.names.lookup x = some .local := by first | exact .inl rfl | exact .inr rfl | assumption) : PG X (.Name x pos) (RG Γ (tgName i)) :=
  ⟨fun pins s σ H v u Q I r h => (pg_name hN hi hx hf).run pins s σ H v u Q I r (by
    obtain ⟨c0, n0, c, p, s, x, fp, rfl, R, k, rx, t, f, q⟩ := h
    unfold tgName at q
    split at q
    · rename_i hx
      obtain ⟨R1, k1⟩ := R.store hx.2 k (rx.ro (MV.slotable.nosl hx.1)) t f
      exact q (c.tag fp (some (.slot i))) _ R1 k1
    · exact q.elim)⟩
/-- xs[i] = .. -/
def tgSub (a b : M MV) (x : MV) : MS := fun s => if x.stable = true then (match mBind a (fun o => mBind b fun i => mPure (o, i)) s with
  | .ok (o, .int i) s1 => (match lget s1 o with
    | some xs => (match ixN xs.length i with | some j => .nx (lset s1 o (xs.set j x)) | none => .stuck)
    | none => .stuck)
  | _ => .stuck) else .stuck
theorem pg_subM (ha : PE X a (RE Γ ta)) (hb : PE X b (RE Γ tb))
    (hs : ∀ v, assign (.Subscript a b pos) X.env v = (do
      let ov ← holding [v] (eval a X.env)
      let iv ← holding [v, ov] (eval b X.env)
      standAt pos
      holding [v, ov, iv] (setItem ov iv v)
      release [v, ov, iv] []) := by intro _; rfl) : PG X (.Subscript a b pos) (RG Γ (tgSub ta tb)) :=
  ⟨fun pins s σ H v u Q I r h => (pg_sub ha hb set_list hs).run pins s σ H v u Q I r (by
    obtain ⟨c0, n0, c, p, s, x, fp, rfl, R, k, rx, t, f, q⟩ := h
    unfold tgSub at q
    split at q
    · rename_i hx
      obtain ⟨rfl, rx'⟩ := rx.stab hx
      refine ⟨c, p, s, rfl, R, ?_⟩
      unfold mBind at q
      revert q
      cases ta s with
      | stuck => exact id
      | exc e s1 => exact fun q => q.elim
      | ok o s1 =>
        intro q c1 ov fp1 R1 k1 r1 t1 f1
        dsimp only at q
        refine ⟨c1, p, s1, rfl, R1, ?_⟩
        revert q
        cases tb s1 with
        | stuck => exact id
        | exc e s2 => exact fun q => q.elim
        | ok iv s2 =>
          intro q c2 u2 fp2 R2 k2 r2 t2 f2
          dsimp only [mPure] at q
          split at q
          · rename_i o' i s1' e1
            injection e1 with e1 e2
            injection e1 with e1 e3
            subst e1 e2 e3
            obtain ⟨rfl, rfl⟩ := r2.int
            split at q
            · rename_i xs e0
              split at q
              · rename_i j ej
                obtain ⟨t1', st⟩ := t1.stay r1.at k2
                have r1' := r1.keep R1.mok k2 st
                obtain ⟨a', us, rfl, h1, h2, _⟩ := lget_ok R2 r1' e0
                have rx2 : RO Γ.K c2 s2.h.length x v [] := (rx'.keep R.mok (k1.trans k2) fun _ z => nomatch z)
                obtain ⟨R3, k3, _, _⟩ := lset_ok R2 r1' e0 (h2.set rx2 j)
                refine ⟨a', us, i, j, rfl, rfl, h1, by rw [← h2.length]; exact ej, ?_⟩
                exact q _ _ R3 (((k.trans k1).trans k2).trans k3)
              · exact q.elim
            · exact q.elim
          · exact q.elim
    · exact q.elim)⟩
/-! a, b = .. -/
def RGs (Γ : Gam) (t : List MV → MS) : TGs := fun vs σ H Q => ∃ c0 n0 c p s xs fp, c.H = H ∧ Rel Γ.K c σ p s ∧ Keep c0 n0 c s.h.length ∧ ROs Γ.K c s.h.length xs vs fp ∧ Tmp c fp ∧ Fresh c0 fp ∧ PostG Γ c0 n0 p (t xs s) Q
def tgNil (xs : List MV) : MS := fun s => match xs with
  | [] => .nx s
  | _ => .stuck
def tgCons (t1 : MV → MS) (t : List MV → MS) (xs : List MV) : MS := fun s => match xs with
  | x :: r => (match t1 x s with | .nx s1 => t r s1 | _ => .stuck)
  | [] => .stuck
theorem pgs_nilM : PGs X [] (RGs Γ tgNil) :=
  ⟨fun pins s σ H vs us Q I r h => pgs_nil.run pins s σ H vs us Q I r (by
    obtain ⟨c0, n0, c, p, s, xs, fp, rfl, R, k, rx, t, f, q⟩ := h
    unfold tgNil at q
    split at q
    · cases rx
      exact ⟨rfl, q c _ R k⟩
    · exact q.elim)⟩
theorem keep_tag {fp : List Addr} {i : Nat} (k : Keep c0 n0 c n) (f : Fresh c0 fp) (t : Tmp c fp) : Keep c0 n0 (c.tag fp (some (.slot i))) n ∧ Keep (c.tag fp (some (.slot i))) n c n ∧ Fresh (c.tag fp (some (.slot i))) fp := by
  refine ⟨k.take f (part_tag (Nat.le_refl _)) fun a z q => ?_, ⟨Nat.le_refl _, fun _ _ => rfl, fun a o h q => ?_, fun a o h q => ?_⟩, fun a z => .inr ?_⟩
  · rw [t.un a z] at q; cases q
  · have q : setOwn c.own fp (some (.slot i)) a = none := q
    by_cases z : a ∈ fp
    · rw [setOwn_in z] at q; cases q
    · rw [setOwn_out z] at q; exact ⟨h, q⟩
  · have q : setOwn c.own fp (some (.slot i)) a = some .fro := q
    by_cases z : a ∈ fp
    · rw [setOwn_in z] at q; cases q
    · rw [setOwn_out z] at q; exact ⟨h, q⟩
  · show setOwn c.own fp (some (.slot i)) a ≠ none
    rw [setOwn_in z]; exact fun q => by cases q
theorem pgs_consM {t1 : MV → MS} {t : List MV → MS} (h1 : PG X e (RG Γ t1)) (h2 : PGs X es (RGs Γ t)) (hs : (assignEach (e :: es) X.env).map (·.2) = assign e X.env :: (assignEach es X.env).map (·.2) := by rfl) : PGs X (e :: es) (RGs Γ (tgCons t1 t)) :=
  ⟨fun pins s σ H vs us Q I r h => (pgs_cons h1 h2 hs).run pins s σ H vs us Q I r (by
    obtain ⟨c0, n0, c, p, s, xs, fp, rfl, R, k, rx, tm, f, q⟩ := h
    unfold tgCons at q
    split at q
    · rename_i x rr
      obtain ⟨v, vr, f1, g1, rfl, rfl, r1, r2⟩ := rx.inv
      refine ⟨v, vr, rfl, ?_⟩
      have fl : Fresh c0 f1 := fun a z => f a (List.mem_append_left _ z)
      have fr : Fresh c0 g1 := fun a z => f a (List.mem_append_right _ z)
      obtain ⟨k1, k2, fb⟩ := keep_tag (i := 0) k fl tm.left
      refine ⟨c.tag f1 (some (.slot 0)), s.h.length, c, p, s, x, f1, rfl, R, k2, .val r1, tm.left, fb, ?_⟩
      revert q
      cases t1 x s with
      | nx s1 =>
        intro q c1 σ1 R1 kb
        refine ⟨c0, n0, c1, p, s1, rr, g1, rfl, R1, k1.trans kb, ?_, ?_, fr, q⟩
        · have dis := (List.nodup_append.mp tm.nd).2.2
          have st : ∀ a ∈ g1, c1.H a = c.H a ∧ c1.own a = none := fun a z => by
            obtain ⟨us', e1⟩ := r2.at a z
            have out : a ∉ f1 := fun z' => dis a z' a z rfl
            have := kb.un a _ e1 ((setOwn_out out).trans (tm.un a (List.mem_append_right _ z)))
            exact ⟨this.1.trans e1.symm, this.2⟩
          have nf : ∀ a ∈ f1, c.own a ≠ some .fro := fun a z q => by rw [tm.left.un a z] at q; cases q
          exact (r2.re2 (c.tag f1 (some (.slot 0))) rfl (fun _ _ => rfl) (Nat.le_refl _) (tag_fro nf)).keep (mok_tag R.mok r1.at) kb fun a z => (st a z).1
        · exact ⟨(List.nodup_append.mp tm.nd).2.1, fun a z => by
            obtain ⟨us', e1⟩ := r2.at a z
            have out : a ∉ f1 := fun z' => (List.nodup_append.mp tm.nd).2.2 a z' a z rfl
            exact (kb.un a _ e1 ((setOwn_out out).trans (tm.un a (List.mem_append_right _ z)))).2⟩
      | _ => exact fun q => q.elim
    · exact q.elim)⟩
end
end Mir

namespace Mir
open PySem PySem.Spec L2

section
variable {Γ : Gam} {X : Cx} {c0 c : Cfg} {n0 n : Nat} {σ : St} {H : Hp} {p : List (Nat × V)} {s : Sm}
variable {a b e tg : Expr} {es : List Expr} {ta tb : M MV} {tl : M (List MV)} {pos : Pos}
variable {K : PySem.W.Frag}

def tgTup (n : Nat) (t : List MV → MS) (x : MV) : MS := fun s => match x with
  | .tup xs => if xs.length = n then t xs s else .stuck
  | .tupo xs => if xs.length = n then t xs s else .stuck
  | _ => .stuck
theorem pg_tupM {k : Nat} {t : List MV → MS} {n : Nat} (hK : X.K = Γ.K) (hc : X.calm = true) (h : PGs X es (RGs Γ t))
    (hn : (assignEach es X.env).length = n := by rfl) (hst : (assignEach es X.env).findIdx? (·.1) = none := by rfl) : PG X (.Tuple es k pos) (RG Γ (tgTup n t)) :=
  ⟨fun pins s σ H v u Q I r hw => (pg_tup hc h hn hst).run pins s σ H v u Q I r (by
    obtain ⟨c0, n0, c, p, s, x, fp, rfl, R, k, rx, t', f, q⟩ := hw
    rw [hK]
    unfold tgTup at q
    split at q
    · split at q
      · rename_i hl
        cases rx with
        | val rx => cases rx with
          | tup h rr => exact ⟨_, _, rfl, h, by rw [← rr.length]; exact hl, c0, n0, c, p, s, _, [], rfl, R, k, rr, Tmp.nil, Fresh.nil, q⟩
      · exact q.elim
    · split at q
      · rename_i hl
        cases rx with
        | val rx => cases rx with
          | tupo h rr => exact ⟨_, _, rfl, h, by rw [← rr.length]; exact hl, c0, n0, c, p, s, _, fp, rfl, R, k, rr, t', f, q⟩
      · exact q.elim
    · exact q.elim)⟩

/-! ### statements -/
def mAsg (m : M MV) (t : MV → MS) : MS := fun s => match m s with
  | .ok x s1 => t x s1
  | .exc e s1 => .exc e s1
  | .stuck => .stuck
def Out.isNx : Out → Bool
  | .nx _ => true
  | .stuck => true
  | _ => false
def onlyNx (o : Out) : Out := match o with
  | .nx s => .nx s
  | _ => .stuck
def mAsgT (m : M MV) (t : MV → MS) : MS := mAsg m fun x s => onlyNx (t x s)
theorem PostG.of {D : Ends} {o : Out} {c : Cfg} {n : Nat} (q : PostS Γ c n p (onlyNx o) D) : PostG Γ c n p o D.nx := by
  cases o <;> first | exact q | exact q.elim
theorem ps_asgM {t : MV → MS} (he : PE X e (RE Γ ta)) (hg : PG X tg (RG Γ t)) (hs : swapsWithSole [tg] e pos.line X.env = pure false := by rfl) (hw : swappedStores [tg] e X.env = pure none := by rfl)
    (h1 : (assignEach [tg] X.env).map (·.2) = [assign tg X.env] := by rfl) : PS X (.Assign [tg] e pos) (RS Γ (mAsgT ta t)) :=
  PS.imp (ps_asg he hg hs hw h1) fun D σ H h => by
    obtain ⟨c, p, s, e, R, h⟩ := h
    refine ⟨c, p, s, e, R, ?_⟩
    unfold mAsgT mAsg at h
    revert h
    cases ta s with
    | stuck => exact id
    | exc e s1 => exact fun h c1 C d => h c1 σ C d
    | ok x s1 => exact fun h c1 v fp R1 k1 r1 t1 f1 => ⟨c, s.h.length, c1, p, s1, x, fp, rfl, R1, k1, r1, t1, f1, PostG.of h⟩
/-- a name is stored -/
def mSet (i : Nat) (m : M MV) : MS := fun s => match m s with
  | .ok x s1 => if x.slotable = true ∧ i ∉ s1.pin then .nx (s1.put i x) else .stuck
  | .exc e s1 => .exc e s1
  | .stuck => .stuck
theorem RS_set {i : Nat} {m : M MV} {D : Ends} (h : RS Γ (mSet i m) D σ H) : RE Γ m σ H fun v H1 => D.nx (σ.set i (some v)) H1 := by
  obtain ⟨c, p, s, e, R, h⟩ := h
  refine ⟨c, p, s, e, R, ?_⟩
  unfold mSet at h
  revert h
  cases m s with
  | stuck => exact id
  | exc e s1 => exact fun h c1 C d => h c1 σ C d
  | ok x s1 =>
    intro h c1 v fp R1 k1 r1 t1 f1
    dsimp only at h
    split at h
    · rename_i hx
      obtain ⟨R2, k2⟩ := R1.store hx.2 k1 (r1.ro (MV.slotable.nosl hx.1)) t1 f1
      exact h (c1.tag fp (some (.slot i))) _ R2 k2
    · exact h.elim
theorem ps_setM {i : Nat} {x : Str} {pos' : Pos} (hN : X.N.Nodup) (hi : X.N[i]? = some x) (hx : Loc X.env.scope x) (he : PE X e (RE Γ ta)) (hs : swapsWith e (some (.Name x pos')) pos.line X.env = pure false := by rfl) (hf : X.fn x = true ∨ X.env.scope.names.lookup x = some .local := by first | exact .inl rfl | exact .inr rfl | assumption) :
    PS X (.Assign [.Name x pos'] e pos) (RS Γ (mSet i ta)) := PS.imp (ps_set hN hi hx he hs hf) fun _ _ _ h => RS_set h
/-- a, b = x, y -/
def mPar (i j : Nat) (m : M (List MV)) : MS := fun s => match m s with
  | .ok [x, y] s1 => if (x.slotable = true ∧ y.slotable = true) ∧ i ∉ s1.pin ∧ j ∉ s1.pin then .nx ((s1.put i x).put j y) else .stuck
  | .ok _ _ => .stuck
  | .exc e s1 => .exc e s1
  | .stuck => .stuck
theorem ps_parM {i j : Nat} {x y : Str} {a b : Expr} {px py pt : Pos} {kt k2 pt2} (hc : X.calm = true) (hN : X.N.Nodup) (hi : X.N[i]? = some x) (hj : X.N[j]? = some y) (hij : i ≠ j)
    (hx : X.env.scope.names.lookup x = some .local) (hy : X.env.scope.names.lookup y = some .local) (ha : PA X [a, b] (RL Γ tl))
    (hw : swappedStores [.Tuple [.Name x px, .Name y py] kt pt] (.Tuple [a, b] k2 pt2) X.env = pure (some [x, y]))
    (hs : swapsWithSole [.Tuple [.Name x px, .Name y py] kt pt] (.Tuple [a, b] k2 pt2) pos.line X.env = pure false := by rfl) :
    PS X (.Assign [.Tuple [.Name x px, .Name y py] kt pt] (.Tuple [a, b] k2 pt2) pos) (RS Γ (mPar i j tl)) :=
  PS.imp (ps_par hc hN hi hj hij hx hy ha hw hs) fun D σ H h => by
    obtain ⟨c, p, s, e, R, h⟩ := h
    refine ⟨c, p, s, e, R, ?_⟩
    unfold mPar at h
    revert h
    cases tl s with
    | stuck => exact id
    | exc e s1 => exact fun h c1 C d => h c1 σ C d
    | ok xs s1 =>
      intro h c1 vs fp R1 k1 r1 t1 f1
      split at h
      · rename_i x y s1' e1
        injection e1 with e1 e2
        subst e1 e2
        cases r1 with
        | cons ra rt =>
          cases rt with
          | cons rb rn =>
            cases rn
            rename_i v f1' w f2
            rw [List.append_nil] at t1 f1
            split at h
            · rename_i hx
              obtain ⟨⟨hx1, hx2⟩, hp1, hp2⟩ := hx
              have fl : Fresh c f1' := fun a z => f1 a (List.mem_append_left _ z)
              have fr : Fresh c f2 := fun a z => f1 a (List.mem_append_right _ z)
              have ra' := ra.ro (MV.slotable.nosl hx1)
              have rb' := rb.ro (MV.slotable.nosl hx2)
              obtain ⟨R2, k2⟩ := R1.store hp1 k1 ra' t1.left fl
              have dis : ∀ a ∈ f2, a ∉ f1' := fun a z z' => (List.nodup_append.mp t1.nd).2.2 a z' a z rfl
              have t2 : Tmp (c1.tag f1' (some (.slot i))) f2 := ⟨t1.right.nd, fun a z => (setOwn_out (dis a z)).trans (t1.right.un a z)⟩
              have nf : ∀ a ∈ f1', c1.own a ≠ some .fro := fun a z q => by rw [t1.left.un a z] at q; cases q
              obtain ⟨R3, k3⟩ := R2.store (i := j) hp2 k2 (rb'.re2 (c1.tag f1' (some (.slot i))) rfl (fun _ _ => rfl) (Nat.le_refl _) (tag_fro nf)) t2 fr
              exact ⟨v, w, rfl, h ((c1.tag f1' (some (.slot i))).tag f2 (some (.slot j))) _ R3 k3⟩
            · exact h.elim
      · exact h.elim
      · rename_i e1; cases e1
      · rename_i e1; cases e1
def mExpr (m : M MV) : MS := fun s => match m s with
  | .ok _ s1 => .nx s1
  | .exc e s1 => .exc e s1
  | .stuck => .stuck
theorem ps_exprM (he : PE X e (RE Γ ta)) (hs : swapsWith e none pos.line X.env = pure false := by rfl) : PS X (.Expr e pos) (RS Γ (mExpr ta)) :=
  PS.imp (ps_expr he hs) fun D σ H h => by
    obtain ⟨c, p, s, e, R, h⟩ := h
    refine ⟨c, p, s, e, R, ?_⟩
    unfold mExpr at h
    revert h
    cases ta s with
    | stuck => exact id
    | exc e s1 => exact fun h c1 C d => h c1 σ C d
    | ok x s1 => exact fun h c1 v fp R1 k1 r1 t1 f1 => h c1 σ R1 k1
def MV.given : MV → Bool
  | .sl _ => false
  | _ => true
def mRet (m : M MV) : MS := fun s => match m s with
  | .ok x s1 => if x.given = true then .rt x s1 else .stuck
  | .exc e s1 => .exc e s1
  | .stuck => .stuck
theorem ps_retM (he : PE X e (RE Γ ta)) : PS X (.Return (some e) pos) (RS Γ (mRet ta)) :=
  PS.imp (ps_ret he) fun D σ H h => by
    obtain ⟨c, p, s, e, R, h⟩ := h
    refine ⟨c, p, s, e, R, ?_⟩
    unfold mRet at h
    revert h
    cases ta s with
    | stuck => exact id
    | exc e s1 => exact fun h c1 C d => h c1 σ C d
    | ok x s1 =>
      intro h c1 v fp R1 k1 r1 t1 f1
      dsimp only at h
      split at h
      · rename_i hx
        exact h c1 σ v fp R1 k1 (r1.ro fun i e => by subst e; cases hx) t1 f1
      · exact h.elim
def mRetN : MS := fun s => .rt .non s
theorem ps_retNM : PS X (.Return none pos) (RS Γ mRetN) := PS.imp ps_retN fun D σ H h => by
  obtain ⟨c, p, s, rfl, R, h⟩ := h
  exact h c σ .non [] R .refl .non Tmp.nil Fresh.nil
def mNext : MS := fun s => .nx s
def mSeq (a b : MS) : MS := fun s => match a s with
  | .nx s1 => b s1
  | r => r
theorem RS_next {D : Ends} (h : RS Γ mNext D σ H) : D.nx σ H := by
  obtain ⟨c, p, s, rfl, R, h⟩ := h
  exact h c σ R .refl
theorem pss_nilM : PSs X [] (RS Γ mNext) := PSs.imp pss_nil fun D σ H h => RS_next h
theorem PostS.weak {D : Ends} {r : Out} {c c1 : Cfg} {n n1 : Nat} (k : Keep c n c1 n1) (h : PostS Γ c n p r D) : PostS Γ c1 n1 p r D := by
  cases r with
  | nx s => exact fun c' σ' R k' => h c' σ' R (k.trans k')
  | bk s => exact fun c' σ' R k' => h c' σ' R (k.trans k')
  | ct s => exact fun c' σ' R k' => h c' σ' R (k.trans k')
  | rt v s => exact fun c' σ' v fp R k' r t f => h c' σ' v fp R (k.trans k') r t (f.back k)
  | exc e s => exact fun c' σ' C d R k' => h c' σ' C d R (k.trans k')
  | stuck => exact h
theorem RS_seq {a b : MS} {D : Ends} (h : RS Γ (mSeq a b) D σ H) : RS Γ a { D with nx := RS Γ b D } σ H := by
  obtain ⟨c, p, s, e, R, h⟩ := h
  refine ⟨c, p, s, e, R, ?_⟩
  unfold mSeq at h
  revert h
  cases a s with
  | nx s1 => exact fun h c1 σ1 R1 k1 => ⟨c1, p, s1, rfl, R1, h.weak k1⟩
  | _ => exact id
theorem pss_consM {st : Stmt} {rest : List Stmt} {a b : MS} (h1 : PS X st (RS Γ a)) (h2 : PSs X rest (RS Γ b)) : PSs X (st :: rest) (RS Γ (mSeq a b)) := PSs.imp (pss_cons h1 h2) fun _ _ _ h => RS_seq h
theorem pss_oneM {st : Stmt} {a : MS} (h1 : PS X st (RS Γ a)) : PSs X [st] (RS Γ a) := pss_one h1
theorem ps_passM : PS X (.Pass pos) (RS Γ mNext) := PS.imp ps_pass fun D σ H h => RS_next h
def mBreak : MS := fun s => .bk s
def mCont : MS := fun s => .ct s
theorem ps_breakM : PS X (.Break pos) (RS Γ mBreak) := PS.imp ps_break fun D σ H h => by
  obtain ⟨c, p, s, rfl, R, h⟩ := h
  exact h c σ R .refl
theorem ps_contM : PS X (.Continue pos) (RS Γ mCont) := PS.imp ps_continue fun D σ H h => by
  obtain ⟨c, p, s, rfl, R, h⟩ := h
  exact h c σ R .refl
def mIfS (t : M Bool) (a b : MS) : MS := fun s => match t s with
  | .ok k s1 => if k = true then a s1 else b s1
  | .exc e s1 => .exc e s1
  | .stuck => .stuck
theorem RS_if {t : M Bool} {a b : MS} {D : Ends} (h : RS Γ (mIfS t a b) D σ H) : RT Γ t σ H fun k H1 => if k = true then RS Γ a D σ H1 else RS Γ b D σ H1 := by
  obtain ⟨c, p, s, e, R, h⟩ := h
  refine ⟨c, p, s, e, R, ?_⟩
  unfold mIfS at h
  revert h
  cases t s with
  | stuck => exact id
  | exc e s1 => exact fun h c1 C d => h c1 σ C d
  | ok k s1 =>
    intro h c1 R1 k1
    cases k with
    | true => exact ⟨c1, p, s1, rfl, R1, PostS.weak k1 h⟩
    | false => exact ⟨c1, p, s1, rfl, R1, PostS.weak k1 h⟩
theorem ps_ifM {t : Expr} {sa sb : List Stmt} {T : M Bool} {a b : MS} (ht : PT X t (RT Γ T)) (ha : PSs X sa (RS Γ a)) (hb : PSs X sb (RS Γ b)) : PS X (.If t sa sb pos) (RS Γ (mIfS T a b)) := PS.imp (ps_if ht ha hb) fun _ _ _ h => RS_if h
/-- x op= e -/
def mAug (i : Nat) (g : MV → MV → M MV) (m : M MV) : MS := fun s => match s.σ[i]? with
  | some (some x) => if x.stable = true then mSet i (mBind m fun y => g x y) s else .stuck
  | _ => .stuck
theorem ps_augM {i : Nat} {x : Str} {op : Operator} {r : R2} {g : MV → MV → M MV} {pos' : Pos} (hN : X.N.Nodup) (hi : X.N[i]? = some x) (hx : Loc X.env.scope x) (he : PE X e (RE Γ ta)) (ho : OpR X (inplaceOp op) r) (ok : Ok2 Γ r g) (hf : X.fn x = true ∨ X.env.scope.names.lookup x = some .local := by first | exact .inl rfl | exact .inr rfl | assumption) :
    PS X (.AugAssign (.Name x pos') op e pos) (RS Γ (mAug i g ta)) :=
  PS.imp (ps_aug hN hi hx he ho hf) fun D σ H h => by
    obtain ⟨c, p, s, rfl, R, h⟩ := h
    unfold mAug at h
    split at h
    · rename_i x e0
      obtain ⟨v, fp, h1, h2, h3, h4⟩ := R.slot i x e0
      split at h
      · rename_i hx
        have := h2.stab hx
        subst this
        refine ⟨v, h1, c, p, s, rfl, R, ?_⟩
        unfold mSet mBind at h
        revert h
        cases ta s with
        | stuck => exact id
        | exc e s1 => exact fun h c1 C d => h c1 σ C d
        | ok y s1 =>
          intro h c1 u fp R1 k1 r1 t1 f1
          dsimp only at h
          refine ok c s.h.length c1 σ p s1 x y v u [] fp _ R1 k1 (.val (h2.keep R.mok k1 fun _ z => nomatch z)) r1 t1 f1 ?_
          revert h
          cases g x y s1 with
          | stuck => exact id
          | exc e s2 => exact fun h c2 C d => h c2 σ C d
          | ok z s2 =>
            intro h c2 w fp2 R2 k2 r2 t2 f2
            dsimp only at h
            split at h
            · rename_i hz
              obtain ⟨R3, k3⟩ := R2.store hz.2 k2 (r2.ro (MV.slotable.nosl hz.1)) t2 f2
              exact h (c2.tag fp2 (some (.slot i))) _ R3 k3
            · exact h.elim
      · exact h.elim
    · exact h.elim
end
end Mir

namespace Mir
open PySem PySem.Spec L2

/-! ### loops -/
structure MIt where
  items : List MV
  back : Option Nat
def Sm.unpin (s : Sm) : Sm := { s with pin := s.pin.tail }
def Sm.dopin (s : Sm) (i : Nat) : Sm := { s with pin := i :: s.pin }
def loopM (t : MV → MS) (b : MS) : List MV → MS
  | [] => fun s => .nx s
  | x :: xs => fun s => match t x s with
    | .nx s1 => (match b s1 with
      | .nx s2 => loopM t b xs s2
      | .ct s2 => loopM t b xs s2
      | .bk s2 => .nx s2
      | r => r)
    | _ => .stuck
def finO (i : Nat) (xs : List MV) : Out → Out
  | .nx s => .nx (s.unpin.put i (.lst xs))
  | .rt v s => .rt v s.unpin
  | .exc e s => .exc e s.unpin
  | _ => .stuck
def mFor (it : M MIt) (t : MV → MS) (b : MS) : MS := fun s => match it s with
  | .ok J s1 => (match J.back with
    | none => loopM t b J.items s1
    | some i => finO i J.items (loopM t b J.items (s1.dopin i)))
  | .exc e s1 => .exc e s1
  | .stuck => .stuck
def GAS : Nat := 1099511627776
def whileG (t : M Bool) (b : MS) : Nat → MS
  | 0 => fun _ => .stuck
  | g + 1 => fun s => match t s with
    | .ok k s1 => if k = true then (match b s1 with
      | .nx s2 => whileG t b g s2
      | .ct s2 => whileG t b g s2
      | .bk s2 => .nx s2
      | r => r) else .nx s1
    | .exc e s1 => .exc e s1
    | .stuck => .stuck
def mWhile (t : M Bool) (b : MS) : MS := fun s => whileG t b GAS s

section
variable {Γ : Gam} {X : Cx} {c0 c c' : Cfg} {n0 n : Nat} {σ : St} {H : Hp} {p : List (Nat × V)} {s : Sm}
variable {a b e tg : Expr} {es : List Expr} {ta tb : M MV} {tl : M (List MV)} {pos : Pos}
variable {K : PySem.W.Frag}

theorem Rel.unpin {i : Nat} {v : V} (R : Rel K c σ ((i, v) :: p) s) : Rel K c σ p s.unpin :=
  ⟨R.len, R.slot, R.heap, R.mok, by rw [show s.unpin.pin = s.pin.tail from rfl, ← R.pinl]; rfl, fun j w h => R.pinv j w (List.mem_cons_of_mem _ h)⟩
theorem Rel.dopin {i : Nat} {v : V} (R : Rel K c σ p s) (h : σ[i]? = some (some v)) : Rel K c σ ((i, v) :: p) (s.dopin i) :=
  ⟨R.len, R.slot, R.heap, R.mok, by show i :: p.map (·.1) = i :: s.pin; rw [R.pinl], fun j w h' => by
    rcases List.mem_cons.mp h' with e | h'
    · cases e; exact h
    · exact R.pinv j w h'⟩
theorem set_self {α : Type} {l : List α} {i : Nat} {x : α} (h : l[i]? = some x) : l.set i x = l := by
  apply List.ext_getElem?
  intro j
  by_cases e : i = j
  · subst e
    rw [h, List.getElem?_set_self (List.getElem?_eq_some_iff.mp h).1]
  · rw [List.getElem?_set_ne e]
/-- a slot's own value is put back -/
theorem Rel.restore {i : Nat} {x : MV} {v : V} {fp : List Addr} (R : Rel K c σ p s) (hv : σ[i]? = some (some v)) (k : Keep c0 n0 c s.h.length) (r : RO K c s.h.length x v fp) (t : Tmp c fp) (f : Fresh c0 fp) :
    Rel K (c.tag fp (some (.slot i))) σ p (s.put i x) ∧ Keep c0 n0 (c.tag fp (some (.slot i))) (s.put i x).h.length := by
  have R0 : Rel K c σ [] { s with pin := [] } := ⟨R.len, R.slot, R.heap, R.mok, rfl, fun _ _ z => nomatch z⟩
  obtain ⟨R1, k1⟩ := R0.store (i := i) (fun z => nomatch z) k r t f
  rw [set_self hv] at R1
  exact ⟨⟨R1.len, R1.slot, R1.heap, R1.mok, R.pinl, R.pinv⟩, k1⟩

/-- what is walked: the items, one by one, whatever happens in between -/
def Src (Γ : Gam) (c0 : Cfg) (n0 : Nat) (J : It) (xs : List MV) : Prop := ∀ c σ p s, Rel Γ.K c σ p s → Keep c0 n0 c s.h.length →
  (∀ i x, xs[i]? = some x → J.go i c.H ∧ ∀ v H', J.yld i c.H v H' → ∃ c', c'.H = H' ∧ Rel Γ.K c' σ p s ∧ Keep c s.h.length c' s.h.length ∧ RO Γ.K c' s.h.length x v []) ∧ J.stop xs.length c.H
def PostI (Γ : Gam) (c : Cfg) (n : Nat) (σ : St) (p : List (Nat × V)) (r : Res MIt) (R : It → Hp → Prop) : Prop := match r with
  | .ok J s1 => (match J.back with
    | none => ∀ c1 Jt, Rel Γ.K c1 σ p s1 → Keep c n c1 s1.h.length → Src Γ c1 s1.h.length Jt J.items → R Jt c1.H
    | some i => ∀ c1 Jt v fp, Rel Γ.K c1 σ ((i, v) :: p) (s1.dopin i) → Keep c n c1 s1.h.length → σ[i]? = some (some v) → RO Γ.K c1 s1.h.length (.lst J.items) v fp → Tmp c1 fp → Fresh c fp → Src Γ c1 s1.h.length Jt J.items → R Jt c1.H)
  | .exc e s1 => ∀ c' C d, Rel Γ.K c' σ p s1 → Keep c n c' s1.h.length → XR Γ c' s1.h.length e C d → Γ.W (.ref C) (some d) σ c'.H
  | .stuck => False
def RI (Γ : Gam) (it : M MIt) : TI := fun σ H R => ∃ c p s, c.H = H ∧ Rel Γ.K c σ p s ∧ PostI Γ c s.h.length σ p (it s) R

/-- the loop's own turns, over any frame of ends: fin tells what the loop's end is worth -/
theorem turns {t : MV → MS} {bd : MS} {J : It} {xs : List MV} {c1 : Cfg} {n1 : Nat} {p1 : List (Nat × V)} {D : Ends} (F : Cfg → Nat → Out → Prop) (src : Src Γ c1 n1 J xs)
    (nx : ∀ c s σ, Rel Γ.K c σ p1 s → Keep c1 n1 c s.h.length → F c s.h.length (.nx s) → D.nx σ c.H)
    (rt : ∀ c n v s1, Keep c1 n1 c n → F c n (.rt v s1) → PostS Γ c n p1 (.rt v s1) D)
    (exc : ∀ c n e s1, Keep c1 n1 c n → F c n (.exc e s1) → PostS Γ c n p1 (.exc e s1) D)
    (bk : ∀ c n s1, ¬ F c n (.bk s1)) (ct : ∀ c n s1, ¬ F c n (.ct s1)) (st : ∀ c n, ¬ F c n .stuck)
    (weak : ∀ c n c' n' o, Keep c n c' n' → F c n o → F c' n' o)
    {σ : St} {s : Sm} (R : Rel Γ.K c1 σ p1 s) (hn : n1 = s.h.length) (h : F c1 n1 (loopM t bd xs s)) :
    ∃ W : Nat → Nat → St → Hp → Prop, (∃ m, W 0 m σ c1.H) ∧ ∀ i m σ H, W i m σ H →
      (J.stop i H ∧ D.nx σ H) ∨ (J.go i H ∧ ∃ N : St → Hp → Prop, (∀ σ' H', N σ' H' → ∃ m', m' < m ∧ W (i + 1) m' σ' H') ∧ ∀ x H', J.yld i H x H' → RG Γ t x σ H' fun σ2 H2 => RS Γ bd { D with nx := N, ct := N, bk := D.nx } σ2 H2) := by
  refine ⟨fun i m σ H => ∃ c s, c.H = H ∧ Rel Γ.K c σ p1 s ∧ Keep c1 n1 c s.h.length ∧ m = xs.length - i ∧ i ≤ xs.length ∧ F c s.h.length (loopM t bd (xs.drop i) s), ⟨_, c1, s, rfl, R, by subst hn; exact .refl, rfl, Nat.zero_le _, by subst hn; exact h⟩, ?_⟩
  rintro i m σ H ⟨c, s, rfl, R, k, rfl, hi, h⟩
  obtain ⟨go, stop⟩ := src c σ p1 s R k
  by_cases hlt : i < xs.length
  · have e : xs[i]? = some xs[i] := by simp [hlt]
    obtain ⟨g1, g2⟩ := go i _ e
    refine .inr ⟨g1, fun σ' H' => ∃ c' s', c'.H = H' ∧ Rel Γ.K c' σ' p1 s' ∧ Keep c1 n1 c' s'.h.length ∧ F c' s'.h.length (loopM t bd (xs.drop (i + 1)) s'), fun σ' H' ⟨c', s', e1, e2, e3, e4⟩ => ⟨xs.length - (i + 1), by omega, c', s', e1, e2, e3, rfl, hlt, e4⟩, fun x H' y => ?_⟩
    obtain ⟨c2, rfl, R2, k2, r2⟩ := g2 x H' y
    rw [List.drop_eq_getElem_cons hlt] at h
    refine ⟨c2, s.h.length, c2, p1, s, xs[i], [], rfl, R2, .refl, .val r2, Tmp.nil, Fresh.nil, ?_⟩
    unfold loopM at h
    revert h
    cases t xs[i] s with
    | nx s1 =>
      intro h c3 σ3 R3 k3
      refine ⟨c3, p1, s1, rfl, R3, ?_⟩
      dsimp only at h
      revert h
      cases bd s1 with
      | nx s2 => exact fun h c4 σ4 R4 k4 => ⟨c4, s2, rfl, R4, ((k.trans k2).trans k3).trans k4, weak _ _ _ _ _ ((k2.trans k3).trans k4) h⟩
      | ct s2 => exact fun h c4 σ4 R4 k4 => ⟨c4, s2, rfl, R4, ((k.trans k2).trans k3).trans k4, weak _ _ _ _ _ ((k2.trans k3).trans k4) h⟩
      | bk s2 => exact fun h c4 σ4 R4 k4 => nx c4 s2 σ4 R4 (((k.trans k2).trans k3).trans k4) (weak _ _ _ _ _ ((k2.trans k3).trans k4) h)
      | rt v s2 => exact fun h => rt _ _ _ _ ((k.trans k2).trans k3) (weak _ _ _ _ _ (k2.trans k3) h)
      | exc e s2 => exact fun h => exc _ _ _ _ ((k.trans k2).trans k3) (weak _ _ _ _ _ (k2.trans k3) h)
      | stuck => exact fun h => (st _ _ h).elim
    | _ => exact fun h => (st _ _ h).elim
  · have e : i = xs.length := by omega
    subst e
    rw [List.drop_length] at h
    exact .inl ⟨stop, nx c s σ R k h⟩

theorem ps_forM {iter : Expr} {body : List Stmt} {it : M MIt} {t : MV → MS} {bd : MS} (hp : PassesOwn (model X.prog X.w) X.A X.env X.xe) (hc : X.calm = true) (hi : PI X tg iter (RI Γ it)) (hg : PG X tg (RG Γ t)) (hb : PSs X body (RS Γ bd))
    (hs : ∀ x, foldedSetIterable iter X.env x = pure x := by intro _; rfl) : PS X (.For tg iter body [] pos) (RS Γ (mFor it t bd)) :=
  PS.imp (ps_for hp hc hi hg hb hs) fun D σ H h => by
    obtain ⟨c, p, s, rfl, R, h⟩ := h
    refine ⟨c, p, s, rfl, R, ?_⟩
    unfold mFor at h
    revert h
    cases it s with
    | stuck => exact id
    | exc e s1 => exact fun h c1 C d => h c1 σ C d
    | ok J s1 =>
      obtain ⟨xs, back⟩ := J
      cases back with
      | none =>
        intro h c1 Jt R1 k1 src
        refine turns (p1 := p) (D := D) (fun c' n' o => PostS Γ c' n' p o D ∧ (match o with | .bk _ => False | .ct _ => False | _ => True)) src (fun c2 s2 σ2 R2 k2 q => q.1 c2 σ2 R2 .refl) (fun c2 n2 v s2 k2 q => q.1) (fun c2 n2 e s2 k2 q => q.1) (fun _ _ _ q => q.2) (fun _ _ _ q => q.2) (fun _ _ q => q.1) (fun a n b m o kk q => ⟨q.1.weak kk, q.2⟩) R1 rfl ⟨PostS.weak k1 h, ?_⟩
        -- the loop itself never breaks
        have nb : ∀ (ys : List MV) (s : Sm), match loopM t bd ys s with | .bk _ => False | .ct _ => False | _ => True := by
          intro ys
          induction ys with
          | nil => exact fun _ => trivial
          | cons y ys ih =>
            intro s
            unfold loopM
            cases t y s with
            | nx s1 =>
              dsimp only
              cases bd s1 <;> first | exact ih _ | trivial
            | _ => trivial
        exact nb xs s1
      | some i =>
        intro h c1 Jt v fp R1 k1 hv rv tv fv src
        refine turns (p1 := (i, v) :: p) (D := D) (fun _ _ o => PostS Γ c s.h.length p (finO i xs o) D) src (fun c2 s2 σ2 R2 k2 q => ?_) (fun c2 n2 w s2 k2 q => ?_) (fun c2 n2 e s2 k2 q => ?_) (fun _ _ _ q => q) (fun _ _ _ q => q) (fun _ _ q => q) (fun a n b m o kk q => q) R1 rfl h
        · obtain ⟨t2, st⟩ := tv.stay rv.at k2
          have hv2 : σ2[i]? = some (some v) := R2.pinv i v List.mem_cons_self
          obtain ⟨R3, k3⟩ := (R2.unpin).restore (i := i) hv2 (k1.trans k2) (rv.keep R1.mok k2 st) t2 fv
          exact q (c2.tag fp (some (.slot i))) σ2 R3 k3
        · exact fun c3 σ3 u f3 R3 k3 r3 t3 f3' => q c3 σ3 u f3 R3.unpin ((k1.trans k2).trans k3) r3 t3 (f3'.back (k1.trans k2))
        · exact fun c3 σ3 C d R3 k3 x3 => q c3 σ3 C d R3.unpin ((k1.trans k2).trans k3) x3

/-! ### while -/
theorem ps_whileM {test : Expr} {body : List Stmt} {T : M Bool} {bd : MS} (hp : PassesOwn (model X.prog X.w) X.A X.env X.xe) (ht : PT X test (RT Γ T)) (hb : PSs X body (RS Γ bd)) : PS X (.While test body [] pos) (RS Γ (mWhile T bd)) :=
  PS.imp (ps_while hp ht hb) fun D σ H h => by
    obtain ⟨c, p, s, rfl, R, h⟩ := h
    refine ⟨fun m σ H => ∃ c s, c.H = H ∧ Rel Γ.K c σ p s ∧ PostS Γ c s.h.length p (whileG T bd m s) D, ⟨GAS, c, s, rfl, R, h⟩, ?_⟩
    rintro m σ H ⟨c, s, rfl, R, h⟩
    cases m with
    | zero => exact h.elim
    | succ g =>
      refine ⟨c, p, s, rfl, R, ?_⟩
      unfold whileG at h
      revert h
      cases T s with
      | stuck => exact id
      | exc e s1 => exact fun h c1 C d => h c1 σ C d
      | ok k s1 =>
        intro h c1 R1 k1
        cases k with
        | false => exact h c1 σ R1 k1
        | true =>
          refine ⟨fun σ' H' => ∃ c' s', c'.H = H' ∧ Rel Γ.K c' σ' p s' ∧ PostS Γ c' s'.h.length p (whileG T bd g s') D, fun σ' H' ⟨c', s', e1, e2, e3⟩ => ⟨g, Nat.lt_succ_self _, c', s', e1, e2, e3⟩, c1, p, s1, rfl, R1, ?_⟩
          dsimp only at h
          rw [if_pos rfl] at h
          revert h
          cases bd s1 with
          | nx s2 => exact fun h c2 σ2 R2 k2 => ⟨c2, s2, rfl, R2, h.weak (k1.trans k2)⟩
          | ct s2 => exact fun h c2 σ2 R2 k2 => ⟨c2, s2, rfl, R2, h.weak (k1.trans k2)⟩
          | bk s2 => exact fun h c2 σ2 R2 k2 => h c2 σ2 R2 (k1.trans k2)
          | rt v s2 => exact fun h c2 σ2 u fp R2 k2 r2 t2 f2 => h c2 σ2 u fp R2 (k1.trans k2) r2 t2 (f2.back k1)
          | exc e s2 => exact fun h c2 σ2 C d R2 k2 => h c2 σ2 C d R2 (k1.trans k2)
          | stuck => exact id
end
end Mir

namespace Mir
open PySem PySem.Spec L2

section
variable {Γ : Gam} {X : Cx} {c0 c c' c1 : Cfg} {n0 n : Nat} {σ : St} {H : Hp} {p : List (Nat × V)} {s : Sm}
variable {a b e tg : Expr} {es : List Expr} {ta tb : M MV} {tl : M (List MV)} {pos : Pos}
variable {K : PySem.W.Frag}

/-! ### what a for walks -/
/-- a list, a tuple, a text -/
def iSeqA (K : PySem.W.Frag) (tl : TE) : TI := fun σ H R => tl σ H fun x H1 => (∃ a, x = .ref a ∧ (∃ xs, SqL K H1 a xs) ∧ R (Itl K a) H1) ∨ (∃ a, x = .ref a ∧ (∃ xs, SqT K H1 a xs) ∧ R (Itt K a) H1) ∨ ∃ z, x = .str z ∧ R (Its z) H1
theorem pi_seqA {l : Expr} {tl : TE} (hl : PE X l tl) : PI X tg l (iSeqA X.K tl) := by
  refine ⟨fun pins s σ H R I h => ?_⟩
  refine thn (hl.run pins s σ H _ I h) fun v s1 ⟨x, H1, I1, r1, q1⟩ => ?_
  rcases q1 with ⟨a, e, ⟨xs, hq⟩, q⟩ | ⟨a, e, ⟨xs, hq⟩, q⟩ | ⟨z, e, q⟩
  · subst e
    cases r1
    obtain ⟨its, rv, p, hz⟩ := I1.list hq
    refine PySem.wpAny_pyIter_list p.isList ?_
    refine ⟨s1.heap.objs.size, [s1.heap.objs.size], _, _, H1, rfl, I1.kept (t' := s1.toks) fun b o e => Heap.get?_push_of_some _ e, turn_list a _, ⟨_, Heap.get?_push_size _ rfl, rfl, rfl⟩, fun b hb => ?_, q⟩
    have e : b = s1.heap.objs.size := by simpa using hb
    subst e
    exact I1.fpOk (Nat.le_refl _) (I1.hok.fresh (Nat.le_refl _))
  · subst e
    cases r1
    obtain ⟨its, rv, p, hz⟩ := I1.tuple hq
    refine PySem.wpAny_pyIter_tuple (show s1.heap.IsTuple a its.toArray from p) ?_
    refine ⟨s1.heap.objs.size, [s1.heap.objs.size], _, _, H1, rfl, I1.kept (t' := s1.toks) fun b o e => Heap.get?_push_of_some _ e, turn_tuple a _, ⟨_, Heap.get?_push_size _ rfl, rfl, rfl⟩, fun b hb => ?_, q⟩
    have e : b = s1.heap.objs.size := by simpa using hb
    subst e
    exact I1.fpOk (Nat.le_refl _) (I1.hok.fresh (Nat.le_refl _))
  · subst e
    obtain ⟨t, rfl⟩ := r1
    cases ha : z.cps.all (· < 128)
    · exact PySem.wpAny_pyIter_wide ha (pi_one (tk := s1.toks) I1 _ (turn_str _ z t "str_iterator" (.inr rfl)) ⟨_, Heap.get?_push_size _ rfl, rfl, rfl⟩ q)
    · exact PySem.wpAny_pyIter_ascii ha (pi_one (tk := s1.toks) I1 _ (turn_str _ z t "str_ascii_iterator" (.inl rfl)) ⟨_, Heap.get?_push_size _ rfl, rfl, rfl⟩ q)

/-- a fixed list: nobody's slot's -/
def fixL : MV → Option (List MV)
  | .ro xs => some xs
  | .ext xs => some xs
  | .lst xs => some xs
  | _ => none
theorem fixL_ok {x : MV} {v : V} {fp : List Addr} {xs : List MV} (r : RX K c n σ x v fp) (e : fixL x = some xs) : ∃ a vs, v = .ref a ∧ SqL K c.H a vs ∧ ROs K c n xs vs [] := by
  cases r with
  | sl h => cases e
  | val r =>
    cases r with
    | ro h q r => cases e; exact ⟨_, _, rfl, SqL.of h, r⟩
    | ext h r => cases e; exact ⟨_, _, rfl, h.sq, r⟩
    | lst h r => cases e; exact ⟨_, _, rfl, SqL.of h, r⟩
    | _ => cases e
/-- it stays as it is -/
theorem fixL_keep {x : MV} {v : V} {fp : List Addr} {xs : List MV} (m : MutOk c) (r : RX K c n σ x v fp) (t : Tmp c fp) (e : fixL x = some xs) : ∃ a vs, v = .ref a ∧ ∀ c' n', Keep c n c' n' → SqL K c'.H a vs ∧ ROs K c' n' xs vs [] := by
  cases r with
  | sl h => cases e
  | val r =>
    cases r with
    | ro h q r => cases e; exact ⟨_, _, rfl, fun c' n' k => ⟨SqL.of (k.fro _ _ h q).1, r.keep m k fun _ z => nomatch z⟩⟩
    | ext h r => cases e; exact ⟨_, _, rfl, fun c' n' k => ⟨(h.keep m k).sq, r.keep m k fun _ z => nomatch z⟩⟩
    | lst h r => cases e; exact ⟨_, _, rfl, fun c' n' k => ⟨SqL.of (k.un _ _ h (t.un _ (List.mem_singleton.mpr rfl))).1, r.keep m k fun _ z => nomatch z⟩⟩
    | _ => cases e
theorem seqT_keep {x : MV} {v : V} {fp : List Addr} {xs : List MV} (m : MutOk c) (r : RX K c n σ x v fp) (e : seqT x = some xs) : ∃ a vs, v = .ref a ∧ ∀ c' n', Keep c n c' n' → SqT K c'.H a vs ∧ ROs K c' n' xs vs [] := by
  obtain ⟨a, vs, e1, h1, h2, _⟩ := seqT_ok r e
  exact ⟨a, vs, e1, fun c' n' k => ⟨SqT.keep h1 m k, h2.keep m k fun _ z => nomatch z⟩⟩
def sgnM (z : Str) : List MV := z.cps.toList.map fun c => .str ⟨#[c]⟩
def gIter (x : MV) : M MIt := fun s => match x with
  | .sl i => (match s.σ[i]? with | some (some (.lst xs)) => .ok ⟨xs, some i⟩ (s.out i) | _ => .stuck)
  | .tup xs => .ok ⟨xs, none⟩ s
  | .str z => .ok ⟨sgnM z, none⟩ s
  | x => match fixL x with
    | some xs => .ok ⟨xs, none⟩ s
    | none => .stuck
def mIter (m : M MV) : M MIt := mBind m gIter
theorem src_list {c1 : Cfg} {n1 : Nat} {a : Addr} {xs : List MV} {vs : List V} (h : ∀ c n, Keep c1 n1 c n → SqL Γ.K c.H a vs ∧ ROs Γ.K c n xs vs []) : Src Γ c1 n1 (Itl Γ.K a) xs := fun c σ p s R k => by
  obtain ⟨h1, h2⟩ := h c s.h.length k
  refine ⟨fun i x e => ?_, ⟨vs, h1, Nat.le_of_eq h2.length.symm⟩⟩
  obtain ⟨v, e1, r1⟩ := h2.get e
  exact ⟨⟨vs, v, h1, e1⟩, fun w H' y => ⟨c, y.1.symm, R, .refl, by
    have := y.2 vs h1
    rw [e1] at this
    cases this
    exact r1⟩⟩
theorem src_tup {c1 : Cfg} {n1 : Nat} {a : Addr} {xs : List MV} {vs : List V} (h : ∀ c n, Keep c1 n1 c n → SqT Γ.K c.H a vs ∧ ROs Γ.K c n xs vs []) : Src Γ c1 n1 (Itt Γ.K a) xs := fun c σ p s R k => by
  obtain ⟨h1, h2⟩ := h c s.h.length k
  refine ⟨fun i x e => ?_, ⟨vs, h1, Nat.le_of_eq h2.length.symm⟩⟩
  obtain ⟨v, e1, r1⟩ := h2.get e
  exact ⟨⟨vs, v, h1, e1⟩, fun w H' y => ⟨c, y.1.symm, R, .refl, by
    have := y.2 vs h1
    rw [e1] at this
    cases this
    exact r1⟩⟩
theorem src_str {c1 : Cfg} {n1 : Nat} {z : Str} : Src Γ c1 n1 (Its z) (sgnM z) := fun c σ p s R k => by
  refine ⟨fun i x e => ?_, by show z.cps.size ≤ (sgnM z).length; simp [sgnM]⟩
  unfold sgnM at e
  rw [List.getElem?_map, Array.getElem?_toList] at e
  obtain ⟨cp, e1, e2⟩ := Option.map_eq_some_iff.mp e
  subst e2
  exact ⟨(Array.getElem?_eq_some_iff.mp e1).1, fun w H' y => by
    obtain ⟨y1, cp', y2, y3⟩ := y
    rw [e1] at y2
    cases y2
    subst y3
    exact ⟨c, y1.symm, R, .refl, .str⟩⟩
theorem RI_bind {α : Type} {m : M MV} {f : MV → M MIt} {R : It → Hp → Prop} (h : RI Γ (mBind m f) σ H R) : RE Γ m σ H fun v H1 => ∃ c0 n0 c p s x fp, c.H = H1 ∧ Rel Γ.K c σ p s ∧ Keep c0 n0 c s.h.length ∧ RX Γ.K c s.h.length σ x v fp ∧ Tmp c fp ∧ Fresh c0 fp ∧ PostI Γ c0 n0 σ p (f x s) R := by
  obtain ⟨c, p, s, e, R', h⟩ := h
  refine ⟨c, p, s, e, R', ?_⟩
  unfold mBind at h
  revert h
  cases m s with
  | stuck => exact id
  | exc e s1 => exact id
  | ok x s1 => exact fun h c1 v fp R1 k1 r1 t1 f1 => ⟨c, s.h.length, c1, p, s1, x, fp, rfl, R1, k1, r1, t1, f1, h⟩
theorem pi_iterM {l : Expr} (hK : X.K = Γ.K) (hl : PE X l (RE Γ ta)) : PI X tg l (RI Γ (mIter ta)) :=
  PI.imp (pi_seqA hl) fun σ H R h => by
    refine RE_mono (RI_bind (α := Unit) h) fun v H1 hh => ?_
    obtain ⟨c0, n0, c, p, s, x, fp, rfl, R1, k, r, t, f, q⟩ := hh
    rw [hK]
    unfold gIter at q
    split at q
    · rename_i i
      split at q
      · rename_i xs e0
        obtain ⟨v', fp', h1, R2, k2, r2, t2, f2⟩ := R1.take e0
        have ev : v = v' := by
          cases r with
          | sl h => rw [h] at h1; cases h1; rfl
          | val r => cases r
        subst ev
        have r2' := r2
        cases r2 with
        | lst h3 h4 =>
          rename_i a vs
          refine .inl ⟨a, rfl, ⟨vs, SqL.of h3⟩, ?_⟩
          refine q (c.tag [a] none) (Itl Γ.K a) (.ref a) [a] (R2.dopin h1) (k.trans k2) h1 r2' t2 (f2.back k) (src_list (vs := vs) fun c3 n3 k3 => ?_)
          obtain ⟨t3, st⟩ := t2.stay r2'.at k3
          have r3 := r2'.keep R2.mok k3 st
          have e3 : c3.H a = some (.lst vs) := (st a (List.mem_singleton.mpr rfl)).trans h3
          exact ⟨SqL.of e3, h4.keep R2.mok k3 fun _ z => nomatch z⟩
      · exact q.elim
    · obtain ⟨a, vs, rfl, h1, h2, rfl⟩ := seqT_ok r rfl
      exact .inr (.inl ⟨a, rfl, ⟨vs, h1⟩, q c (Itt Γ.K a) R1 k (src_tup (vs := vs) fun c3 n3 k3 => ⟨SqT.keep h1 R1.mok k3, h2.keep R1.mok k3 fun _ z => nomatch z⟩)⟩)
    · obtain ⟨rfl, rfl⟩ := r.str
      exact .inr (.inr ⟨_, rfl, q c _ R1 k src_str⟩)
    · split at q
      · rename_i xs e0
        obtain ⟨a, vs, rfl, h1⟩ := fixL_keep R1.mok r t e0
        exact .inl ⟨a, rfl, ⟨vs, (h1 c s.h.length .refl).1⟩, q c (Itl Γ.K a) R1 k (src_list (vs := vs) h1)⟩
      · exact q.elim
/-! ranges -/
def rgM (lo : Int) (n : Nat) : List MV := (List.range n).map fun (i : Nat) => .int (lo + i)
def rgD (lo c : Int) (n : Nat) : List MV := (List.range n).map fun (i : Nat) => .int (lo + i * c)
theorem src_range {c1 : Cfg} {n1 : Nat} {lo : Int} {n : Nat} : Src Γ c1 n1 (Itr lo n) (rgM lo n) := fun c σ p s R k => by
  refine ⟨fun i x e => ?_, by show n ≤ (rgM lo n).length; simp [rgM]⟩
  unfold rgM at e
  rw [List.getElem?_map] at e
  obtain ⟨j, e1, e2⟩ := Option.map_eq_some_iff.mp e
  subst e2
  obtain ⟨hi, e3⟩ := List.getElem?_eq_some_iff.mp e1
  rw [List.getElem_range] at e3
  subst e3
  rw [List.length_range] at hi
  exact ⟨hi, fun w H' y => by
    obtain ⟨y1, rfl⟩ := y
    exact ⟨c, y1.symm, R, .refl, .int⟩⟩
theorem src_rangeC {c1 : Cfg} {n1 : Nat} {lo d : Int} {n : Nat} : Src Γ c1 n1 (Itc lo d n) (rgD lo d n) := fun c σ p s R k => by
  refine ⟨fun i x e => ?_, by show n ≤ (rgD lo d n).length; simp [rgD]⟩
  unfold rgD at e
  rw [List.getElem?_map] at e
  obtain ⟨j, e1, e2⟩ := Option.map_eq_some_iff.mp e
  subst e2
  obtain ⟨hi, e3⟩ := List.getElem?_eq_some_iff.mp e1
  rw [List.getElem_range] at e3
  subst e3
  rw [List.length_range] at hi
  exact ⟨hi, fun w H' y => by
    obtain ⟨y1, rfl⟩ := y
    exact ⟨c, y1.symm, R, .refl, .int⟩⟩
def bound62 (i : Int) : Bool := decide (-4611686018427387904 ≤ i) && decide (i < 4611686018427387904)
theorem bound62_ok {i : Int} (h : bound62 i = true) : -(2 ^ 62) ≤ i ∧ i < 2 ^ 62 := by
  unfold bound62 at h
  rw [Bool.and_eq_true] at h
  have := of_decide_eq_true h.1
  have := of_decide_eq_true h.2
  omega
def gRange1 (xs : List MV) : M MIt := fun s => match xs with
  | [.int j] => if bound62 j = true then .ok ⟨rgM 0 j.toNat, none⟩ s else .stuck
  | _ => .stuck
def gRange2 (xs : List MV) : M MIt := fun s => match xs with
  | [.int i, .int j] => if bound62 i = true ∧ bound62 j = true then .ok ⟨rgM i (j - i).toNat, none⟩ s else .stuck
  | _ => .stuck
def gRangeD (xs : List MV) : M MIt := fun s => match xs with
  | [.int i, .int j, .int d] => if d = -1 ∧ bound62 i = true ∧ bound62 j = true then .ok ⟨rgD i d (i - j).toNat, none⟩ s else .stuck
  | _ => .stuck
/-- by steps of c, small bounds -/
def gRange3 (xs : List MV) : M MIt := fun s => match xs with
  | [.int i, .int j, .int d] => if d ≠ 0 ∧ d.natAbs < 1073741824 ∧ Builtin.Range.small i j d = true ∧ 0 ≤ Builtin.Range.rangeSize i j d then .ok ⟨rgD i d (Builtin.Range.rangeSize i j d).toNat, none⟩ s else .stuck
  | _ => .stuck
def mItL (g : List MV → M MIt) (tl : M (List MV)) : M MIt := mBind tl g
theorem RI_bindL {m : M (List MV)} {f : List MV → M MIt} {R : It → Hp → Prop} (h : RI Γ (mBind m f) σ H R) : RL Γ m σ H fun vs H1 => ∃ c0 n0 c p s xs fp, c.H = H1 ∧ Rel Γ.K c σ p s ∧ Keep c0 n0 c s.h.length ∧ RXs Γ.K c s.h.length σ xs vs fp ∧ Tmp c fp ∧ Fresh c0 fp ∧ PostI Γ c0 n0 σ p (f xs s) R := by
  obtain ⟨c, p, s, e, R', h⟩ := h
  refine ⟨c, p, s, e, R', ?_⟩
  unfold mBind at h
  revert h
  cases m s with
  | stuck => exact id
  | exc e s1 => exact id
  | ok x s1 => exact fun h c1 v fp R1 k1 r1 t1 f1 => ⟨c, s.h.length, c1, p, s1, x, fp, rfl, R1, k1, r1, t1, f1, h⟩
theorem RL_mono {m : M (List MV)} {Q Q' : List V → Hp → Prop} (h : RL Γ m σ H Q) (w : ∀ x H', Q x H' → Q' x H') : RL Γ m σ H Q' := by
  obtain ⟨c, p, s, e, R, h⟩ := h
  refine ⟨c, p, s, e, R, ?_⟩
  revert h
  cases m s with
  | stuck => exact id
  | exc e s1 => exact id
  | ok x s1 => exact fun q c1 v fp R1 k1 r1 t1 f1 => w _ _ (q c1 v fp R1 k1 r1 t1 f1)
theorem RXs.one {x : MV} {vs : List V} {fp : List Addr} (r : RXs K c n σ [x] vs fp) : ∃ v, vs = [v] ∧ RX K c n σ x v fp := by
  cases r with
  | cons r t => cases t; exact ⟨_, rfl, by rw [List.append_nil]; exact r⟩
theorem RXs.two {x y : MV} {vs : List V} {fp : List Addr} (r : RXs K c n σ [x, y] vs fp) : ∃ v u f1 f2, vs = [v, u] ∧ fp = f1 ++ f2 ∧ RX K c n σ x v f1 ∧ RX K c n σ y u f2 := by
  cases r with
  | cons r t =>
    obtain ⟨u, rfl, r2⟩ := t.one
    exact ⟨_, _, _, _, rfl, rfl, r, r2⟩
theorem RXs.three {x y z : MV} {vs : List V} {fp : List Addr} (r : RXs K c n σ [x, y, z] vs fp) : ∃ v u w f1 f2 f3, vs = [v, u, w] ∧ fp = f1 ++ (f2 ++ f3) ∧ RX K c n σ x v f1 ∧ RX K c n σ y u f2 ∧ RX K c n σ z w f3 := by
  cases r with
  | cons r t =>
    obtain ⟨u, w, f2, f3, rfl, rfl, r2, r3⟩ := t.two
    exact ⟨_, _, _, _, _, _, rfl, rfl, r, r2, r3⟩
theorem pi_range1M {a : Expr} {pp pos : Pos} (hg : Gl X "range") (hm : X.mg "range" = none) (ha : PA X [a] (RL Γ tl)) (hs : starEach [a] X.env = [(false, eval a X.env)] := by rfl) : PI X tg (.Call (.Name "range" pp) [a] [] pos) (RI Γ (mItL gRange1 tl)) :=
  PI.imp (pi_range1 hg hm ha hs) fun σ H R h => by
    refine RL_mono (RI_bindL h) fun vs H1 hh => ?_
    obtain ⟨c0, n0, c, p, s, xs, fp, rfl, R1, k, r, t, f, q⟩ := hh
    unfold gRange1 at q
    split at q
    · split at q
      · rename_i hb
        obtain ⟨v, rfl, r1⟩ := r.one
        obtain ⟨rfl, rfl⟩ := r1.int
        obtain ⟨b1, b2⟩ := bound62_ok hb
        exact ⟨_, rfl, b1, b2, q c _ R1 k src_range⟩
      · exact q.elim
    · exact q.elim
theorem pi_range2M {a b : Expr} {pp pos : Pos} (hg : Gl X "range") (hm : X.mg "range" = none) (ha : PA X [a, b] (RL Γ tl)) (hs : starEach [a, b] X.env = [(false, eval a X.env), (false, eval b X.env)] := by rfl) (hs2 : starEach [b] X.env = [(false, eval b X.env)] := by rfl) :
    PI X tg (.Call (.Name "range" pp) [a, b] [] pos) (RI Γ (mItL gRange2 tl)) :=
  PI.imp (pi_range2 hg hm ha hs hs2) fun σ H R h => by
    refine RL_mono (RI_bindL h) fun vs H1 hh => ?_
    obtain ⟨c0, n0, c, p, s, xs, fp, rfl, R1, k, r, t, f, q⟩ := hh
    unfold gRange2 at q
    split at q
    · split at q
      · rename_i hb
        obtain ⟨v, u, f1, f2, rfl, rfl, r1, r2⟩ := r.two
        obtain ⟨rfl, rfl⟩ := r1.int
        obtain ⟨rfl, rfl⟩ := r2.int
        obtain ⟨b1, b2⟩ := bound62_ok hb.1
        obtain ⟨b3, b4⟩ := bound62_ok hb.2
        exact ⟨_, _, rfl, ⟨b1, b2, b3, b4⟩, q c _ R1 k src_range⟩
      · exact q.elim
    · exact q.elim
theorem pi_rangeDM {a b d : Expr} {pp pos : Pos} (hg : Gl X "range") (hm : X.mg "range" = none) (ha : PA X [a, b, d] (RL Γ tl)) (hs : starEach [a, b, d] X.env = (false, eval a X.env) :: starEach [b, d] X.env := by rfl) (hpl : (backTo pos (starEach [b, d] X.env)).any (·.1) = false := by rfl) :
    PI X tg (.Call (.Name "range" pp) [a, b, d] [] pos) (RI Γ (mItL gRangeD tl)) :=
  PI.imp (pi_range3 hg hm ha hs hpl) fun σ H R h => by
    refine RL_mono (RI_bindL h) fun vs H1 hh => ?_
    obtain ⟨c0, n0, c, p, s, xs, fp, rfl, R1, k, r, t, f, q⟩ := hh
    unfold gRangeD at q
    split at q
    · split at q
      · rename_i hb
        obtain ⟨v, u, w, f1, f2, f3, rfl, rfl, r1, r2, r3⟩ := r.three
        obtain ⟨rfl, rfl⟩ := r1.int
        obtain ⟨rfl, rfl⟩ := r2.int
        obtain ⟨rfl, rfl⟩ := r3.int
        obtain ⟨rfl, hb1, hb2⟩ := hb
        obtain ⟨b1, b2⟩ := bound62_ok hb1
        obtain ⟨b3, b4⟩ := bound62_ok hb2
        exact ⟨_, _, _, _, rfl, RgC.neg b1 b2 b3 b4, q c _ R1 k src_rangeC⟩
      · exact q.elim
    · exact q.elim
theorem pi_range3M {a b d : Expr} {pp pos : Pos} (hg : Gl X "range") (hm : X.mg "range" = none) (ha : PA X [a, b, d] (RL Γ tl)) (hs : starEach [a, b, d] X.env = (false, eval a X.env) :: starEach [b, d] X.env := by rfl) (hpl : (backTo pos (starEach [b, d] X.env)).any (·.1) = false := by rfl) :
    PI X tg (.Call (.Name "range" pp) [a, b, d] [] pos) (RI Γ (mItL gRange3 tl)) :=
  PI.imp (pi_range3 hg hm ha hs hpl) fun σ H R h => by
    refine RL_mono (RI_bindL h) fun vs H1 hh => ?_
    obtain ⟨c0, n0, c, p, s, xs, fp, rfl, R1, k, r, t, f, q⟩ := hh
    unfold gRange3 at q
    split at q
    · split at q
      · rename_i hb
        obtain ⟨v, u, w, f1, f2, f3, rfl, rfl, r1, r2, r3⟩ := r.three
        obtain ⟨rfl, rfl⟩ := r1.int
        obtain ⟨rfl, rfl⟩ := r2.int
        obtain ⟨rfl, rfl⟩ := r3.int
        obtain ⟨h1, h2, h3, h4⟩ := hb
        exact ⟨_, _, _, _, rfl, ⟨h1, h2, h3, by omega⟩, q c _ R1 k src_rangeC⟩
      · exact q.elim
    · exact q.elim

/-! zip, enumerate, reversed -/
def zipM (xs ys : List MV) : List MV := List.zipWith (fun x y => .tup [x, y]) xs ys
def enumM (k : Nat) : List MV → List MV
  | [] => []
  | x :: xs => .tup [.int (k : Nat), x] :: enumM (k + 1) xs
theorem enumM_get : ∀ (xs : List MV) (k i : Nat) (y : MV), (enumM k xs)[i]? = some y → ∃ x, xs[i]? = some x ∧ y = .tup [.int ((k + i : Nat) : Int), x]
  | [], _, _, _, e => by simp [enumM] at e
  | x :: xs, k, 0, y, e => by
    simp [enumM] at e
    exact ⟨x, rfl, e.symm⟩
  | x :: xs, k, i + 1, y, e => by
    obtain ⟨z, h1, h2⟩ := enumM_get xs (k + 1) i y (by simpa [enumM] using e)
    refine ⟨z, by simpa using h1, ?_⟩
    rw [h2, show k + 1 + i = k + (i + 1) by omega]
theorem enumM_len : ∀ (xs : List MV) (k : Nat), (enumM k xs).length = xs.length
  | [], _ => rfl
  | _ :: xs, k => congrArg (· + 1) (enumM_len xs (k + 1))
/-- a new pair -/
theorem new_pair {x y : MV} {v w : V} {T : Addr} (R : Rel K c σ p s) (h : c.H T = none) (r1 : RO K c s.h.length x v []) (r2 : RO K c s.h.length y w []) :
    ∃ c', c'.H = upd c.H T (.tup [v, w]) ∧ Rel K c' σ p s ∧ Keep c s.h.length c' s.h.length ∧ RO K c' s.h.length (.tup [x, y]) (.ref T) [] :=
  have k1 : Keep c s.h.length (c.new T (.tup [v, w])) s.h.length := keep_new h
  ⟨c.new T (.tup [v, w]), rfl, R.new h, k1, .tup (SqT.of upd_same) (.cons0 (r1.keep R.mok k1 fun _ z => nomatch z) (.cons0 (r2.keep R.mok k1 fun _ z => nomatch z) .nil))⟩
def gZip (xs : List MV) : M MIt := fun s => match xs with
  | [x, y] => (match fixL x, fixL y with
    | some a, some b => .ok ⟨zipM a b, none⟩ s
    | _, _ => match seqT x, seqT y with
      | some a, some b => .ok ⟨zipM a b, none⟩ s
      | _, _ => .stuck)
  | _ => .stuck
theorem zipM_get {xs ys : List MV} {i : Nat} {z : MV} (e : (zipM xs ys)[i]? = some z) : ∃ x y, xs[i]? = some x ∧ ys[i]? = some y ∧ z = .tup [x, y] := by
  unfold zipM at e
  rw [List.getElem?_zipWith] at e
  split at e
  · cases e; exact ⟨_, _, by assumption, by assumption, rfl⟩
  · cases e
theorem src_zipL {c1 : Cfg} {n1 : Nat} {a b : Addr} {xs ys : List MV} {vs ws : List V} (h : ∀ c n, Keep c1 n1 c n → SqL Γ.K c.H a vs ∧ ROs Γ.K c n xs vs []) (h' : ∀ c n, Keep c1 n1 c n → SqL Γ.K c.H b ws ∧ ROs Γ.K c n ys ws []) : Src Γ c1 n1 (Itz Γ.K a b) (zipM xs ys) := fun c σ p s R k => by
  obtain ⟨h1, h2⟩ := h c s.h.length k
  obtain ⟨h3, h4⟩ := h' c s.h.length k
  refine ⟨fun i z e => ?_, vs, ws, h1, h3, ?_⟩
  · obtain ⟨x, y, e1, e2, rfl⟩ := zipM_get e
    obtain ⟨v, e3, r1⟩ := h2.get e1
    obtain ⟨w, e4, r2⟩ := h4.get e2
    refine ⟨⟨vs, ws, v, w, h1, h3, e3, e4⟩, fun u H' yy => ?_⟩
    obtain ⟨T, v', w', rfl, hT, rfl, f1, f2⟩ := yy
    have e5 := f1 vs h1
    have e6 := f2 ws h3
    rw [e3] at e5; cases e5
    rw [e4] at e6; cases e6
    exact new_pair R hT r1 r2
  · unfold zipM
    rw [List.length_zipWith, h2.length, h4.length]
    omega
theorem src_zipT {c1 : Cfg} {n1 : Nat} {a b : Addr} {xs ys : List MV} {vs ws : List V} (h : ∀ c n, Keep c1 n1 c n → SqT Γ.K c.H a vs ∧ ROs Γ.K c n xs vs []) (h' : ∀ c n, Keep c1 n1 c n → SqT Γ.K c.H b ws ∧ ROs Γ.K c n ys ws []) : Src Γ c1 n1 (RZ.ItzT Γ.K a b) (zipM xs ys) := fun c σ p s R k => by
  obtain ⟨h1, h2⟩ := h c s.h.length k
  obtain ⟨h3, h4⟩ := h' c s.h.length k
  refine ⟨fun i z e => ?_, vs, ws, h1, h3, ?_⟩
  · obtain ⟨x, y, e1, e2, rfl⟩ := zipM_get e
    obtain ⟨v, e3, r1⟩ := h2.get e1
    obtain ⟨w, e4, r2⟩ := h4.get e2
    refine ⟨⟨vs, ws, v, w, h1, h3, e3, e4⟩, fun u H' yy => ?_⟩
    obtain ⟨T, v', w', rfl, hT, rfl, f1, f2⟩ := yy
    have e5 := f1 vs h1
    have e6 := f2 ws h3
    rw [e3] at e5; cases e5
    rw [e4] at e6; cases e6
    exact new_pair R hT r1 r2
  · unfold zipM
    rw [List.length_zipWith, h2.length, h4.length]
    omega
theorem pi_zipM {e e2 : Expr} {pp pos tpos : Pos} {elts : List Expr} {kk : Nat} (hK : X.K = Γ.K) (hg : Gl X "zip") (hm : X.mg "zip" = none) (ha : PA X [e, e2] (RL Γ tl))
    (hs : starEach [e, e2] X.env = (false, eval e X.env) :: starEach [e2] X.env := by rfl) (hpl : (backTo pos (starEach [e2] X.env)).any (·.1) = false := by rfl) :
    PI X (.Tuple elts kk tpos) (.Call (.Name "zip" pp) [e, e2] [] pos) (RI Γ (mItL gZip tl)) :=
  PI.imp (RZ.pi_zipA hg hm ha hs hpl) fun σ H R h => by
    refine RL_mono (RI_bindL h) fun vs H1 hh => ?_
    obtain ⟨c0, n0, c, p, s, xs, fp, rfl, R1, k, r, t, f, q⟩ := hh
    rw [hK]
    unfold gZip at q
    split at q
    · obtain ⟨v, u, f1, f2, rfl, rfl, r1, r2⟩ := r.two
      split at q
      · rename_i e1 e2
        obtain ⟨a, vs, rfl, h1⟩ := fixL_keep R1.mok r1 t.left e1
        obtain ⟨b, ws, rfl, h2⟩ := fixL_keep R1.mok r2 t.right e2
        exact ⟨a, b, vs, ws, rfl, .inl ⟨(h1 c s.h.length .refl).1, (h2 c s.h.length .refl).1, q c _ R1 k (src_zipL h1 h2)⟩⟩
      · split at q
        · rename_i e1 e2
          obtain ⟨a, vs, rfl, h1⟩ := seqT_keep R1.mok r1 e1
          obtain ⟨b, ws, rfl, h2⟩ := seqT_keep R1.mok r2 e2
          exact ⟨a, b, vs, ws, rfl, .inr ⟨(h1 c s.h.length .refl).1, (h2 c s.h.length .refl).1, q c _ R1 k (src_zipT h1 h2)⟩⟩
        · exact q.elim
    · exact q.elim
def gEnum (xs : List MV) : M MIt := fun s => match xs with
  | [x] => (match fixL x with
    | some a => .ok ⟨enumM 0 a, none⟩ s
    | none => .stuck)
  | _ => .stuck
theorem src_enum {c1 : Cfg} {n1 : Nat} {a : Addr} {xs : List MV} {vs : List V} (h : ∀ c n, Keep c1 n1 c n → SqL Γ.K c.H a vs ∧ ROs Γ.K c n xs vs []) : Src Γ c1 n1 (Ite Γ.K a) (enumM 0 xs) := fun c σ p s R k => by
  obtain ⟨h1, h2⟩ := h c s.h.length k
  refine ⟨fun i z e => ?_, vs, h1, ?_⟩
  · obtain ⟨x, e1, rfl⟩ := enumM_get _ _ _ _ e
    obtain ⟨v, e3, r1⟩ := h2.get e1
    refine ⟨⟨vs, v, h1, e3⟩, fun u H' yy => ?_⟩
    obtain ⟨T, v', rfl, hT, rfl, f1⟩ := yy
    have e5 := f1 vs h1
    rw [e3] at e5; cases e5
    rw [Nat.zero_add]
    exact new_pair R hT .int r1
  · rw [enumM_len, h2.length]; exact Nat.le_refl _
theorem pi_enumM {e : Expr} {pp pos tpos : Pos} {elts : List Expr} {kk : Nat} (hK : X.K = Γ.K) (hg : Gl X "enumerate") (hm : X.mg "enumerate" = none) (ha : PA X [e] (RL Γ tl)) (hs : starEach [e] X.env = [(false, eval e X.env)] := by rfl) :
    PI X (.Tuple elts kk tpos) (.Call (.Name "enumerate" pp) [e] [] pos) (RI Γ (mItL gEnum tl)) :=
  PI.imp (pi_enum hg hm ha hs) fun σ H R h => by
    refine RL_mono (RI_bindL h) fun vs H1 hh => ?_
    obtain ⟨c0, n0, c, p, s, xs, fp, rfl, R1, k, r, t, f, q⟩ := hh
    rw [hK]
    unfold gEnum at q
    split at q
    · split at q
      · rename_i e1
        obtain ⟨v, rfl, r1⟩ := r.one
        obtain ⟨a, vs, rfl, h1⟩ := fixL_keep R1.mok r1 t e1
        exact ⟨a, vs, rfl, (h1 c s.h.length .refl).1, q c _ R1 k (src_enum h1)⟩
      · exact q.elim
    · exact q.elim
end
end Mir

namespace Mir
open PySem PySem.Spec L2

/-! ### comprehensions -/
inductive CT where
  | one (i : Nat) | tup (is : List Nat)
def gNs : List Nat → TGs
  | [] => gNil
  | i :: is => gCons (gName i) (gNs is)
def gCT (K : PySem.W.Frag) : CT → TG
  | .one i => gName i
  | .tup is => gTup K is.length (gNs is)
def putAll : List Nat → List MV → Sm → Option Sm
  | [], [], s => some s
  | i :: is, x :: xs, s => if i ∉ s.pin then putAll is xs (s.put i x) else none
  | _, _, _ => none
def ctSet (t : CT) (x : MV) (s : Sm) : Option Sm := match t with
  | .one i => if x.stable = true ∧ i ∉ s.pin then some (s.put i x) else none
  | .tup is => match x with
    | .tup xs => putAll is xs s
    | _ => none
def wipeL (l : List (Option MV)) : List Nat → List (Option MV)
  | [] => l
  | v :: vs => (wipeL l vs).set v none
def backL (l0 l : List (Option MV)) : List Nat → List (Option MV)
  | [] => l
  | v :: vs => (backL l0 l vs).set v (match l0[v]? with | some o => o | none => none)
def Sm.wipe (s : Sm) (vs : List Nat) : Sm := { s with σ := wipeL s.σ vs }
def Sm.backTo (s0 s : Sm) (vs : List Nat) : Sm := { s with σ := backL s0.σ s.σ vs }
def lcLoop (ct : CT) (vs : List Nat) (tt : M Bool) (te : M MV) : List MV → List MV → M (List MV)
  | [], acc => fun s => .ok acc s
  | x :: xs, acc => fun s => match ctSet ct x s with
    | some s1 => (match tt s1 with
      | .ok k s2 => if k = true then (match te s2 with
          | .ok y s3 => if y.stable = true ∧ acc.length < sizeLine then lcLoop ct vs tt te xs (acc ++ [y]) (s3.wipe vs) else .stuck
          | _ => .stuck) else lcLoop ct vs tt te xs acc (s2.wipe vs)
      | _ => .stuck)
    | none => .stuck
def lcOk (s : Sm) (vs : List Nat) : Bool := vs.all fun i => (match s.σ[i]? with | some (some v) => v.stable | _ => true) && decide (i ∉ s.pin)
/-- [te for ct in it if tt] -/
def mLc (it : M MIt) (ct : CT) (vs : List Nat) (tt : M Bool) (te : M MV) : M MV := fun s => match it s with
  | .ok J s1 => if lcOk s1 vs = true then (match J.back with
    | none => (match lcLoop ct vs tt te J.items [] (s1.wipe vs) with
      | .ok acc s2 => .ok (.lst acc) (s1.backTo s2 vs)
      | _ => .stuck)
    | some i => if i ∉ vs then (match lcLoop ct vs tt te J.items [] ((s1.dopin i).wipe vs) with
      | .ok acc s2 => .ok (.lst acc) ((s1.backTo s2 vs).unpin.put i (.lst J.items))
      | _ => .stuck) else .stuck) else .stuck
  | .exc e s1 => .exc e s1
  | .stuck => .stuck
def mYes : M Bool := mPure true
def Gam.nox (Γ : Gam) : Gam := { Γ with W := fun _ _ _ _ => False }

section
variable {Γ : Gam} {X : Cx} {c0 c c' c1 : Cfg} {n0 n : Nat} {σ : St} {H : Hp} {p : List (Nat × V)} {s s0 : Sm}
variable {K : PySem.W.Frag}
theorem tag_nil {t : Option Tag} : c.tag [] t = c := by
  have : setOwn c.own [] t = c.own := funext fun a => if_neg fun z => nomatch z
  show (⟨c.ι, setOwn c.own [] t, c.H⟩ : Cfg) = c
  rw [this]
theorem Rel.put0 {i : Nat} {x : MV} {v : V} (R : Rel K c σ p s) (hp : i ∉ s.pin) (r : RO K c s.h.length x v []) : Rel K c (σ.set i (some v)) p (s.put i x) := by
  have := (R.store (i := i) (c0 := c) (n0 := s.h.length) hp .refl r Tmp.nil Fresh.nil).1
  rwa [tag_nil] at this
theorem wipeL_len (l : List (Option MV)) : ∀ vs : List Nat, (wipeL l vs).length = l.length
  | [] => rfl
  | v :: vs => by unfold wipeL; rw [List.length_set, wipeL_len l vs]
theorem backL_len (l0 l : List (Option MV)) : ∀ vs : List Nat, (backL l0 l vs).length = l.length
  | [] => rfl
  | v :: vs => by unfold backL; rw [List.length_set, backL_len l0 l vs]
theorem wipeL_some {l : List (Option MV)} {i : Nat} {x : MV} : ∀ {vs : List Nat}, (wipeL l vs)[i]? = some (some x) → l[i]? = some (some x) ∧ i ∉ vs
  | [], h => ⟨h, fun z => nomatch z⟩
  | v :: vs, h => by
    rcases set_get h with ⟨_, e⟩ | ⟨ne, e⟩
    · cases e
    · obtain ⟨h1, h2⟩ := wipeL_some e
      exact ⟨h1, fun z => by
        rcases List.mem_cons.mp z with z | z
        · exact ne z
        · exact h2 z⟩
theorem wipe_keep {i : Nat} {v : V} : ∀ {vs : List Nat}, σ[i]? = some (some v) → i ∉ vs → (L2.wipe σ vs)[i]? = some (some v)
  | [], h, _ => h
  | w :: vs, h, n => by
    unfold L2.wipe
    rw [List.getElem?_set_ne fun z => n (by rw [z]; exact List.mem_cons_self)]
    exact wipe_keep h fun z => n (List.mem_cons_of_mem _ z)
theorem backL_some {l0 l : List (Option MV)} {i : Nat} {x : MV} : ∀ {vs : List Nat}, (backL l0 l vs)[i]? = some (some x) → (i ∈ vs ∧ l0[i]? = some (some x)) ∨ (i ∉ vs ∧ l[i]? = some (some x))
  | [], h => .inr ⟨fun z => (nomatch z), h⟩
  | v :: vs, h => by
    rcases set_get h with ⟨e1, e⟩ | ⟨ne, e⟩
    · subst e1
      refine .inl ⟨List.mem_cons_self, ?_⟩
      split at e
      · rename_i o eo
        rw [eo, e]
      · cases e
    · rcases backL_some e with ⟨h1, h2⟩ | ⟨h1, h2⟩
      · exact .inl ⟨List.mem_cons_of_mem _ h1, h2⟩
      · exact .inr ⟨fun z => by
          rcases List.mem_cons.mp z with z | z
          · exact ne z
          · exact h1 z, h2⟩
theorem Rel.wiped {vs : List Nat} (R : Rel K c σ p s) (h : ∀ i ∈ vs, i ∉ s.pin) : Rel K c (L2.wipe σ vs) p (s.wipe vs) := by
  refine ⟨by rw [wipe_length, R.len]; exact (wipeL_len _ _).symm, fun i mv e => ?_, R.heap, R.mok, R.pinl, fun j v e => wipe_keep (R.pinv j v e) fun z => h j z (by rw [← R.pinl]; exact List.mem_map.mpr ⟨_, e, rfl⟩)⟩
  obtain ⟨e1, e2⟩ := wipeL_some e
  obtain ⟨v, fp, h1, h2⟩ := R.slot i mv e1
  exact ⟨v, fp, wipe_keep h1 e2, h2⟩
/-- the slots are what they were -/
theorem Rel.unwiped {vs : List Nat} {σ2 : St} (R0 : Rel K c0 σ p s0) (st : ∀ i ∈ vs, ∀ v, s0.σ[i]? = some (some v) → v.stable = true) (k : Keep c0 s0.h.length c s.h.length) (R : Rel K c σ2 p s) (hw : L2.wipe σ2 vs = L2.wipe σ vs) : Rel K c σ p (s0.backTo s vs) := by
  have hl : σ2.length = σ.length := by
    have := congrArg List.length hw
    rwa [wipe_length, wipe_length] at this
  refine ⟨by show σ.length = (backL s0.σ s.σ vs).length; rw [backL_len, ← R.len, hl], fun i mv e => ?_, R.heap, R.mok, R.pinl, R0.pinv⟩
  rcases backL_some e with ⟨h1, h2⟩ | ⟨h1, h2⟩
  · obtain ⟨v, fp, e1, e2, e3, e4⟩ := R0.slot i mv h2
    have := e2.stab (st i h1 mv h2)
    subst this
    exact ⟨v, [], e1, e2.keep R0.mok k (fun _ z => nomatch z), List.nodup_nil, fun _ z => nomatch z⟩
  · obtain ⟨v, fp, e1, e2⟩ := R.slot i mv h2
    have := wipe_keep e1 h1
    rw [hw] at this
    exact ⟨v, fp, (wipe_some this).1, e2⟩
theorem wipe_set {i : Nat} {o : Option V} : ∀ {vs : List Nat}, i ∈ vs → L2.wipe (σ.set i o) vs = L2.wipe σ vs
  | [], h => nomatch h
  | v :: vs, h => by
    unfold L2.wipe
    by_cases e : i ∈ vs
    · rw [wipe_set e]
    · have e2 : i = v := by
        rcases List.mem_cons.mp h with z | z
        · exact z
        · exact absurd z e
      subst e2
      have hc : ∀ ws : List Nat, i ∉ ws → L2.wipe (σ.set i o) ws = (L2.wipe σ ws).set i o := by
        intro ws
        induction ws with
        | nil => exact fun _ => rfl
        | cons w ws ih =>
          intro hn
          unfold L2.wipe
          rw [ih fun z => hn (List.mem_cons_of_mem _ z), List.set_comm _ _ fun z => hn (by rw [z]; exact List.mem_cons_self)]
      rw [hc vs e, List.set_set]
theorem wipe_wipe : ∀ vs : List Nat, L2.wipe (L2.wipe σ vs) vs = L2.wipe σ vs := by
  have : ∀ vs ws : List Nat, (∀ v ∈ vs, v ∈ ws) → L2.wipe (L2.wipe σ vs) ws = L2.wipe σ ws := by
    intro vs
    induction vs with
    | nil => exact fun _ _ => rfl
    | cons v vs ih =>
      intro ws h
      rw [show L2.wipe σ (v :: vs) = (L2.wipe σ vs).set v none from rfl, wipe_set (h v List.mem_cons_self)]
      exact ih ws fun w hw => h w (List.mem_cons_of_mem _ hw)
  exact fun vs => this vs vs fun _ h => h
/-- the target of a comprehension takes an item -/
theorem gNs_ok {vs : List Nat} {σ0 : St} : ∀ {is : List Nat} {xs : List MV} {ws : List V} {σ : St} {s s' : Sm} {Q : St → Hp → Prop}, (∀ i ∈ is, i ∈ vs) → Rel K c σ p s → L2.wipe σ vs = σ0 → ROs K c s.h.length xs ws [] → putAll is xs s = some s' →
    (∀ σ', Rel K c σ' p s' → L2.wipe σ' vs = σ0 → s'.h = s.h → s'.pin = s.pin → Q σ' c.H) → gNs is ws σ c.H Q
  | [], [], ws, σ, s, s', Q, _, R, hw, r, e, q => by
    obtain ⟨rfl, _⟩ := r.inil
    have e : some s = some s' := e
    cases e
    exact ⟨rfl, q σ R hw rfl rfl⟩
  | i :: is, x :: xs, ws, σ, s, s', Q, hi, R, hw, r, e, q => by
    obtain ⟨v, ws', rfl, r1, r2⟩ := r.inv0
    have e : (if i ∉ s.pin then putAll is xs (s.put i x) else none) = some s' := e
    split at e
    · rename_i hp
      refine ⟨v, ws', rfl, ?_⟩
      refine gNs_ok (fun j hj => hi j (List.mem_cons_of_mem _ hj)) (R.put0 hp r1) ((wipe_set (hi i List.mem_cons_self)).trans hw) (s := s.put i x) r2 e fun σ' R' hw' h1 h2 => q σ' R' hw' h1 h2
    · cases e
  | [], _ :: _, _, _, _, _, _, _, _, _, _, e, _ => by cases e
  | _ :: _, [], _, _, _, _, _, _, _, _, _, e, _ => by cases e
def CT.slots : CT → List Nat
  | .one i => [i]
  | .tup is => is
theorem gCT_ok {vs : List Nat} {ct : CT} {x : MV} {v : V} {s' : Sm} {Q : St → Hp → Prop} (hi : ∀ i ∈ ct.slots, i ∈ vs) (R : Rel K c (L2.wipe σ vs) p s) (r : RO K c s.h.length x v []) (e : ctSet ct x s = some s')
    (q : ∀ σ', Rel K c σ' p s' → L2.wipe σ' vs = L2.wipe σ vs → s'.h = s.h → s'.pin = s.pin → Q σ' c.H) : gCT K ct v (L2.wipe σ vs) c.H Q := by
  cases ct with
  | one i =>
    have e : (if x.stable = true ∧ i ∉ s.pin then some (s.put i x) else none) = some s' := e
    split at e
    · rename_i hp
      cases e
      exact q _ (R.put0 hp.2 r) ((wipe_set (hi i (List.mem_singleton.mpr rfl))).trans (wipe_wipe vs)) rfl rfl
    · cases e
  | tup is =>
    cases x with
    | tup xs =>
      have e : putAll is xs s = some s' := e
      cases r with
      | tup h r =>
        rename_i a ws
        have hl : ∀ {is : List Nat} {xs : List MV} {s s' : Sm}, putAll is xs s = some s' → xs.length = is.length := by
          intro is
          induction is with
          | nil =>
            intro xs s s' e
            cases xs with
            | nil => rfl
            | cons _ _ => cases e
          | cons i is ih =>
            intro xs s s' e
            cases xs with
            | nil => cases e
            | cons x xs =>
              have e : (if i ∉ s.pin then putAll is xs (s.put i x) else none) = some s' := e
              split at e
              · exact congrArg (· + 1) (ih e)
              · cases e
        exact ⟨a, ws, rfl, h, by rw [← r.length]; exact hl e, gNs_ok hi R (wipe_wipe vs) r e q⟩
    | _ => cases e
/-- a temporary list that grows -/
theorem Rel.grow {D : Addr} {ws us : List V} (R : Rel K c σ p s) (hD : c.H D = some (.lst ws)) (ho : c.own D = none) : Rel K ⟨c.ι, c.own, upd c.H D (.lst us)⟩ σ p s ∧ Part c s.h.length ⟨c.ι, c.own, upd c.H D (.lst us)⟩ s.h.length [D] ∧ (∀ b ∈ [D], ∀ o, c.H b = some o → Mut (some o) ∧ c.own b ≠ some .fro) := by
  have hm : ∀ b ∈ [D], ∀ o, c.H b = some o → Mut (some o) ∧ c.own b ≠ some .fro := fun b z o e => by
    have := List.mem_singleton.mp z
    subst this
    rw [hD] at e; cases e
    exact ⟨trivial, fun z => by rw [ho] at z; cases z⟩
  refine ⟨R.step (fp := [D]) part_upd hm rfl R.pinv R.len (fun i mv e => .inl ⟨e, rfl, fun a z t => by rw [List.mem_singleton.mp z, ho] at t; cases t⟩) (fun j o e => .inl ⟨e, rfl, fun z => ?_⟩) fun b t e => ?_, part_upd, hm⟩
  · have := (R.heap j o e).1
    rw [List.mem_singleton.mp z, ho] at this; cases this
  · have e : c.own b = some t := e
    have ne : b ≠ D := fun z => by subst z; rw [ho] at e; cases e
    show Mut (upd c.H D _ b)
    rw [upd_ne ne]; exact R.mok b t e

/-- the turns of a comprehension -/
theorem lc_turns {ct : CT} {vs : List Nat} {tt : M Bool} {te : M MV} {J : It} {xs acc : List MV} {s2 : Sm} {D : Addr} {Qd : Hp → Prop} (hi : ∀ i ∈ ct.slots, i ∈ vs) (src : Src Γ c1 s.h.length J xs) (R : Rel Γ.K c1 (L2.wipe σ vs) p s) (pv : ∀ i ∈ vs, i ∉ s.pin)
    (hD : c1.H D = none) (e : lcLoop ct vs tt te xs [] s = .ok acc s2)
    (fin : ∀ c ws, Rel Γ.K c (L2.wipe σ vs) p s2 → Keep c1 s.h.length c s2.h.length → c.H D = some (.lst ws) → c.own D = none → ROs Γ.K c s2.h.length acc ws [] → s2.pin = s.pin → Qd c.H) :
    ∃ W : Nat → Nat → Hp → Prop, (∃ m, W 0 m (upd c1.H D (.lst []))) ∧ ∀ i m H, W i m H →
      (J.stop i H ∧ Qd H) ∨ (J.go i H ∧ ∃ Nx : Hp → Prop, (∀ H', Nx H' → ∃ m', m' < m ∧ W (i + 1) m' H') ∧ ∀ x H', J.yld i H x H' → gCT Γ.K ct x (L2.wipe σ vs) H' fun σ2 H2 => L2.wipe σ2 vs = L2.wipe σ vs ∧ RT Γ.nox tt σ2 H2 fun b H3 =>
        if b = true then RE Γ.nox te σ2 H3 fun y H4 => ∃ acc, H4 D = some (.lst acc) ∧ acc.length < sizeLine ∧ Nx (upd H4 D (.lst (acc ++ [y]))) else Nx H3) := by
  have fre : Fresh c1 [D] := fun a z => by rw [List.mem_singleton.mp z]; exact .inl hD
  refine ⟨fun i m H => ∃ c s' ac ws, c.H = H ∧ Rel Γ.K c (L2.wipe σ vs) p s' ∧ Keep c1 s.h.length c s'.h.length ∧ m = xs.length - i ∧ i ≤ xs.length ∧ c.H D = some (.lst ws) ∧ c.own D = none ∧ ROs Γ.K c s'.h.length ac ws [] ∧ s'.pin = s.pin ∧ lcLoop ct vs tt te (xs.drop i) ac s' = .ok acc s2,
    ⟨_, c1.new D (.lst []), s, [], [], rfl, R.new hD, keep_new hD, rfl, Nat.zero_le _, upd_same, R.mok.un hD, .nil, rfl, e⟩, ?_⟩
  rintro i m H ⟨c, s', ac, ws, rfl, Rc, k, rfl, hil, hDc, hoc, rac, hpin, e⟩
  obtain ⟨go, stop⟩ := src c _ p s' Rc k
  by_cases hlt : i < xs.length
  · have ei : xs[i]? = some xs[i] := by simp [hlt]
    obtain ⟨g1, g2⟩ := go i _ ei
    rw [List.drop_eq_getElem_cons hlt] at e
    refine .inr ⟨g1, fun H' => ∃ c s' ac ws, c.H = H' ∧ Rel Γ.K c (L2.wipe σ vs) p s' ∧ Keep c1 s.h.length c s'.h.length ∧ c.H D = some (.lst ws) ∧ c.own D = none ∧ ROs Γ.K c s'.h.length ac ws [] ∧ s'.pin = s.pin ∧ lcLoop ct vs tt te (xs.drop (i + 1)) ac s' = .ok acc s2,
      fun H' ⟨c, s', ac, ws, h1, h2, h3, h4, h5, h6, h7, h8⟩ => ⟨xs.length - (i + 1), by omega, c, s', ac, ws, h1, h2, h3, rfl, hlt, h4, h5, h6, h7, h8⟩, fun x H' y => ?_⟩
    obtain ⟨c2, rfl, R2, k2, r2⟩ := g2 x H' y
    unfold lcLoop at e
    revert e
    cases ec : ctSet ct xs[i] s' with
    | none => exact fun e => by cases e
    | some sA =>
      intro e
      dsimp only at e
      refine gCT_ok hi R2 r2 ec fun σA RA hwA hhA hpA => ⟨hwA, c2, p, sA, rfl, RA, ?_⟩
      revert e
      have tmpD : ∀ {cx : Cfg} {nx : Nat}, Keep c s'.h.length cx nx → cx.H D = some (.lst ws) ∧ cx.own D = none := fun kk => kk.un D _ hDc hoc
      cases tt sA with
      | stuck => exact fun e => by cases e
      | exc x s3 => exact fun e => by cases e
      | ok b sB =>
        intro e cB RB kB
        have kAB : Keep c s'.h.length cB sB.h.length := by
          have := k2.trans (show Keep c2 s'.h.length cB sB.h.length by rw [← hhA]; exact kB)
          exact this
        have wiped : ∀ {cx : Cfg} {sx : Sm}, Rel Γ.K cx σA p sx → sx.pin = s.pin → Rel Γ.K cx (L2.wipe σ vs) p (sx.wipe vs) := fun {cx sx} Rx hx => by
          have := Rx.wiped (vs := vs) fun i h => by rw [hx]; exact pv i h
          rwa [hwA] at this
        have pinB : sB.pin = s.pin := by rw [← RB.pinl, ← hpin, ← Rc.pinl]
        dsimp only at e
        cases b with
        | false =>
          rw [if_neg Bool.false_ne_true] at e ⊢
          obtain ⟨hd, ho⟩ := tmpD kAB
          exact ⟨cB, sB.wipe vs, ac, ws, rfl, wiped RB pinB, k.trans kAB, hd, ho, rac.keep Rc.mok kAB fun _ z => (nomatch z), pinB, e⟩
        | true =>
          rw [if_pos rfl] at e ⊢
          refine ⟨cB, p, sB, rfl, RB, ?_⟩
          revert e
          cases te sB with
          | stuck => exact fun e => by cases e
          | exc x s3 => exact fun e => by cases e
          | ok y sC =>
            intro e cC v fC RC kC rC tC fC'
            dsimp only at e
            split at e
            · rename_i hy
              obtain ⟨rfl, rC'⟩ := rC.stab hy.1
              have kABC := kAB.trans kC
              obtain ⟨hd, ho⟩ := tmpD kABC
              have racC := rac.keep Rc.mok kABC fun _ z => nomatch z
              refine ⟨ws, hd, by rw [← rac.length]; exact hy.2, ?_⟩
              obtain ⟨RG, pG, mG⟩ := RC.grow (us := ws ++ [v]) hd ho
              have pinC : sC.pin = s.pin := by rw [← RC.pinl, ← hpin, ← Rc.pinl]
              refine ⟨⟨cC.ι, cC.own, upd cC.H D (.lst (ws ++ [v]))⟩, sC.wipe vs, ac ++ [y], ws ++ [v], rfl, wiped RG pinC, ?_, upd_same, ho, ?_, pinC, e⟩
              · exact (k.trans kABC).take fre pG fun a z q => by rw [List.mem_singleton.mp z, ho] at q; cases q
              · exact (ROs.app (.cons0 rC' .nil) racC).part pG mG fun _ z => nomatch z
            · cases e
  · have ei : i = xs.length := by omega
    subst ei
    rw [List.drop_length] at e
    have e : Res.ok ac s' = Res.ok acc s2 := e
    cases e
    exact .inl ⟨stop, fin c ws Rc k hDc hoc rac hpin⟩

theorem RE_lc {it : M MIt} {ct : CT} {vs : List Nat} {tt : M Bool} {te : M MV} {Q : VK} (hi : ∀ i ∈ ct.slots, i ∈ vs) (h : RE Γ (mLc it ct vs tt te) σ H Q) : tLc (RI Γ it) (gCT Γ.K ct) (RT Γ.nox tt) (RE Γ.nox te) vs σ H Q := by
  obtain ⟨c, p, s, rfl, R, h⟩ := h
  refine ⟨c, p, s, rfl, R, ?_⟩
  unfold mLc at h
  revert h
  cases it s with
  | stuck => exact id
  | exc e s1 => exact id
  | ok J s1 =>
    intro h
    dsimp only at h
    split at h
    · rename_i hok
      have hst : ∀ i ∈ vs, ∀ v, s1.σ[i]? = some (some v) → v.stable = true := fun i hiv v ev => by
        have := List.all_eq_true.mp hok i hiv
        rw [Bool.and_eq_true, ev] at this
        exact this.1
      have hpv : ∀ i ∈ vs, i ∉ s1.pin := fun i hiv => by
        have := List.all_eq_true.mp hok i hiv
        rw [Bool.and_eq_true] at this
        exact of_decide_eq_true this.2
      obtain ⟨xs, back⟩ := J
      cases back with
      | none =>
        dsimp only at h
        revert h
        cases el : lcLoop ct vs tt te xs [] (s1.wipe vs) with
        | stuck => exact fun h => h.elim
        | exc e s2 => exact fun h => h.elim
        | ok acc s2 =>
          intro h c1 Jt R1 k1 src D hD
          refine lc_turns (s := s1.wipe vs) hi src (R1.wiped hpv) hpv hD el fun c2 ws R2 k2 hd ho ra hpin => ?_
          have R3 := R1.unwiped (s := s2) hst k2 R2 (wipe_wipe vs)
          exact h c2 (.ref D) [D] R3 (k1.trans k2) (.val (.lst hd ra)) ⟨nd1, fun a z => by rw [List.mem_singleton.mp z]; exact ho⟩ (Fresh.back0 k1 fun a z => by rw [List.mem_singleton.mp z]; exact hD)
      | some i =>
        dsimp only at h
        split at h
        · rename_i hiv
          revert h
          cases el : lcLoop ct vs tt te xs [] ((s1.dopin i).wipe vs) with
          | stuck => exact fun h => h.elim
          | exc e s2 => exact fun h => h.elim
          | ok acc s2 =>
            intro h c1 Jt v fp R1 k1 hv rv tv fv src D hD
            have hpv' : ∀ j ∈ vs, j ∉ (s1.dopin i).pin := fun j hj z => by
              rcases List.mem_cons.mp z with z | z
              · exact hiv (z ▸ hj)
              · exact hpv j hj z
            refine lc_turns (s := (s1.dopin i).wipe vs) hi src (R1.wiped hpv') hpv' hD el fun c2 ws R2 k2 hd ho ra hpin => ?_
            have R3 := R1.unwiped (s := s2) hst k2 R2 (wipe_wipe vs)
            obtain ⟨t2, st⟩ := tv.stay rv.at k2
            obtain ⟨R4, k4⟩ := R3.unpin.restore (i := i) hv (k1.trans k2) (rv.keep R1.mok k2 st) t2 fv
            have nD : D ∉ fp := fun z => by
              obtain ⟨us, e⟩ := rv.at D z
              rw [hD] at e; cases e
            have nf : ∀ a ∈ fp, c2.own a ≠ some .fro := fun a z q => by rw [t2.un a z] at q; cases q
            exact h (c2.tag fp (some (.slot i))) (.ref D) [D] R4 k4 (.val (.lst hd (ra.re2 (c2.tag fp (some (.slot i))) rfl (fun _ _ => rfl) (Nat.le_refl _) (tag_fro nf))))
              ⟨nd1, fun a z => by rw [List.mem_singleton.mp z]; exact (setOwn_out nD).trans ho⟩ (Fresh.back0 k1 fun a z => by rw [List.mem_singleton.mp z]; exact hD)
        · exact h.elim
    · exact h.elim
section
variable {elt tg iter : Expr} {ifs : List Expr} {scope : Scope} {own : List (Str × Nat)} {pos : Pos} {it : M MIt} {ct : CT} {tt : M Bool} {te : M MV}
theorem pe_lcM (hc : X.calm = true) (hN : X.N.Nodup) (hct : ∀ i ∈ ct.slots, i ∈ own.map (·.2)) (hi : PI X tg iter (RI Γ it)) (ok : BlkOk X.N X.env.scope scope own)
    (hg : ∀ (s : Shared) (H : Hp) (C : Addr) (cl : List (Str × Addr)) (fp : List Addr), PG (X.blk s H scope (compEnvC scope cl C X.env) fp) tg (gCT Γ.K ct)) (ht : ∀ (s : Shared) (H : Hp) (C : Addr) (cl : List (Str × Addr)) (fp : List Addr), PTs (X.blk s H scope (compEnvC scope cl C X.env) fp) ifs (RT Γ.nox tt))
    (he : ∀ (s : Shared) (H : Hp) (C : Addr) (cl : List (Str × Addr)) (fp : List Addr), PE (X.blk s H scope (compEnvC scope cl C X.env) fp) elt (RE Γ.nox te)) (hs : ∀ x, foldedSetIterable iter X.env x = pure x := by intro _; rfl) :
    PE X (.ListComp elt [⟨tg, iter, ifs, 0⟩] scope pos) (RE Γ (mLc it ct (own.map (·.2)) tt te)) :=
  PE.imp (pe_lc hc hN hi ok hg ht he hs) fun σ H Q h => RE_lc hct h
theorem ps_setLcM {i : Nat} {y : Str} {py spos : Pos} (hc : X.calm = true) (hN : X.N.Nodup) (hy : X.N[i]? = some y) (hyl : X.env.scope.names.lookup y = some .local)
    (hsw : swapsWith (.ListComp elt [⟨tg, iter, ifs, 0⟩] scope pos) (some (.Name y py)) spos.line X.env = pure true) (hct : ∀ i ∈ ct.slots, i ∈ own.map (·.2)) (hi : PI X tg iter (RI Γ it)) (ok : BlkOk X.N X.env.scope scope own)
    (hg : ∀ (s : Shared) (H : Hp) (C : Addr) (cl : List (Str × Addr)) (fp : List Addr), PG (X.blk s H scope (compEnvC scope cl C X.env) fp) tg (gCT Γ.K ct)) (ht : ∀ (s : Shared) (H : Hp) (C : Addr) (cl : List (Str × Addr)) (fp : List Addr), PTs (X.blk s H scope (compEnvC scope cl C X.env) fp) ifs (RT Γ.nox tt))
    (he : ∀ (s : Shared) (H : Hp) (C : Addr) (cl : List (Str × Addr)) (fp : List Addr), PE (X.blk s H scope (compEnvC scope cl C X.env) fp) elt (RE Γ.nox te)) (hs : ∀ x, foldedSetIterable iter X.env x = pure x := by intro _; rfl) :
    PS X (.Assign [.Name y py] (.ListComp elt [⟨tg, iter, ifs, 0⟩] scope pos) spos) (RS Γ (mSet i (mLc it ct (own.map (·.2)) tt te))) :=
  PS.imp (ps_setLc hc hN hy hyl hsw hi ok hg ht he hs) fun D σ H h => RE_lc hct (RS_set h)
theorem pts_nilM : PTs X [] (RT Γ mYes) := ⟨fun pins s σ H Q I h => pts_nil.run pins s σ H Q I (RT_pure h)⟩
theorem pts_oneM {e : Expr} {t : M Bool} (h : PT X e (RT Γ t)) : PTs X [e] (RT Γ t) := pts_one h
theorem pg_ct1 {i : Nat} {x : Str} (hN : X.N.Nodup) (hi : X.N[i]? = some x) (hx : Loc X.env.scope x) (hf : X.fn x = true ∨ X.env.scope.names.lookup x = some .local := by first | exact .inl rfl | exact .inr rfl | assumption) : PG X (.Name x pos) (gCT K (.one i)) := pg_name hN hi hx hf
end
end
end Mir

namespace Mir
open PySem PySem.Spec L2

/-! ### defs and calls -/
inductive FRes where
  | ok (v : MV) (fin : List (Option MV)) (h : List MO) | exc (e : MX) (h : List MO) | stuck
abbrev Fn := List MV → List MO → FRes
def finOf (s : Sm) (pins : List Nat) (j : Nat) : Option MV := if j ∈ pins then (match s.σ[j]? with
  | some (some v) => if v.stable = false ∧ v.slotable = true then some v else none
  | _ => none) else none
def finsOf (s : Sm) (pins : List Nat) (n : Nat) : List (Option MV) := (List.range n).map (finOf s pins)
/-- a def of n slots; pins: the parameters that are never stored -/
def mkFn (n : Nat) (pins : List Nat) (b : MS) : Fn := fun xs h => match b ⟨xs.map some ++ List.replicate (n - xs.length) none, h, pins⟩ with
  | .rt v s => .ok v (finsOf s pins xs.length) s.h
  | .nx s => .ok .non (finsOf s pins xs.length) s.h
  | .exc e s => .exc e s.h
  | _ => .stuck
/-- slots are lent -/
def lend : List MV → Sm → Option (List MV × Sm)
  | [], s => some ([], s)
  | .sl i :: xs, s => match s.σ[i]? with
    | some (some v) => if v.slotable = true then (match lend xs (s.out i) with
      | some (as, s') => some (v :: as, s')
      | none => none) else none
    | _ => none
  | x :: xs, s => if x.slotable = true then (match lend xs s with
      | some (as, s') => some (x :: as, s')
      | none => none) else none
def giveBack : List MV → List (Option MV) → Sm → Sm
  | .sl i :: xs, some v :: fs, s => giveBack xs fs (s.put i v)
  | _ :: xs, _ :: fs, s => giveBack xs fs s
  | _, _, s => s
def callF (f : Fn) (xs : List MV) : M MV := fun s => match lend xs s with
  | some (as, s1) => (match f as s1.h with
    | .ok v fin h => .ok v (giveBack xs fin { s1 with h := h })
    | .exc e h => .exc e { s1 with h := h }
    | .stuck => .stuck)
  | none => .stuck

/-- what is handed back of the parameters -/
inductive FinOk (K : PySem.W.Frag) (c : Cfg) (n : Nat) : List (Option MV) → List V → List Addr → Prop
  | nil {vs : List V} : FinOk K c n [] vs []
  | none {v : V} {fs : List (Option MV)} {vs : List V} {fp : List Addr} : FinOk K c n fs vs fp → FinOk K c n (none :: fs) (v :: vs) fp
  | some {x : MV} {v : V} {f g : List Addr} {fs : List (Option MV)} {vs : List V} : RO K c n x v f → x.slotable = true → FinOk K c n fs vs g → FinOk K c n (some x :: fs) (v :: vs) (f ++ g)
def Sm.bare (h : List MO) : Sm := ⟨[], h, []⟩
def NoSlot (c : Cfg) : Prop := ∀ a i, c.own a ≠ some (.slot i)
def PostF (K : PySem.W.Frag) (ca : Str → Option Addr) (c : Cfg) (n : Nat) (vs : List V) (r : FRes) (Q : VK) (E : XK) : Prop := match r with
  | .ok x fin h => ∀ c' v fp ff, Rel K c' [] [] (Sm.bare h) → NoSlot c' → Keep c n c' h.length → RO K c' h.length x v fp → FinOk K c' h.length fin vs ff → Tmp c' (fp ++ ff) → Fresh c (fp ++ ff) → Q v c'.H
  | .exc e h => ∀ c' C d, Rel K c' [] [] (Sm.bare h) → NoSlot c' → Keep c n c' h.length → XR ⟨K, fun _ _ _ _ => False, ca⟩ c' h.length e C d → E (.ref C) (some d) c'.H
  | .stuck => False
/-- the promise of a def whose mirror is f -/
def spM (K : PySem.W.Frag) (ca : Str → Option Addr) (np : Nat) (f : Fn) : Sp := fun vs H Q E => ∃ c xs h fp, c.H = H ∧ vs.length = np ∧ xs.length = np ∧ Rel K c [] [] (Sm.bare h) ∧ NoSlot c ∧ ROs K c h.length xs vs fp ∧ (∀ x ∈ xs, x.slotable = true) ∧ Tmp c fp ∧
  PostF K ca (c.tag fp (some (.slot 0))) h.length vs (f xs h) Q E

section
variable {K : PySem.W.Frag} {c c' c0 c1 : Cfg} {n n0 n' : Nat} {σ : St} {p : List (Nat × V)} {s : Sm} {fp : List Addr}
/-- the owners of slots forgotten -/
def Cfg.clr (c : Cfg) : Cfg := ⟨c.ι, fun a => match c.own a with
  | some (.slot _) => none
  | t => t, c.H⟩
theorem clr_noslot : NoSlot c.clr := fun a i e => by
  have e : (match c.own a with | some (.slot _) => none | t => t) = some (Tag.slot i) := e
  split at e
  · cases e
  · rename_i h; exact h i e
theorem clr_some {a : Addr} {t : Tag} (e : c.clr.own a = some t) : c.own a = some t := by
  have e : (match c.own a with | some (.slot _) => none | t => t) = some t := e
  split at e
  · cases e
  · exact e
theorem clr_keep {a : Addr} {t : Tag} (e : c.own a = some t) (h : ∀ i, t ≠ .slot i) : c.clr.own a = some t := by
  show (match c.own a with | some (.slot _) => none | t => t) = some t
  rw [e]
  cases t with
  | slot i => exact absurd rfl (h i)
  | _ => rfl
theorem clr_none {a : Addr} (e : c.own a = none) : c.clr.own a = none := by
  show (match c.own a with | some (.slot _) => none | t => t) = none
  rw [e]
theorem clr_slot {a : Addr} {i : Nat} (e : c.own a = some (.slot i)) : c.clr.own a = none := by
  show (match c.own a with | some (.slot _) => none | t => t) = none
  rw [e]
theorem clr_fro : ∀ a, c.own a = some .fro → c.clr.own a = some .fro := fun a e => clr_keep e fun i z => by cases z
theorem Rel.bareOf (R : Rel K c σ p s) : Rel K c.clr [] [] (Sm.bare s.h) := by
  refine ⟨rfl, fun i mv e => by simp [Sm.bare] at e, fun k o e => ?_, fun a t e => R.mok a t (clr_some e), rfl, fun _ _ z => nomatch z⟩
  obtain ⟨h1, h2⟩ := R.heap k o e
  refine ⟨clr_keep h1 fun i z => (nomatch z), ?_⟩
  cases h2 with
  | lst h r => exact .lst h (r.re2 c.clr rfl (fun _ _ => rfl) (Nat.le_refl _) clr_fro)

/-! #### a def keeps its promise -/
/-- the parameters' owners -/
def ownPar (own : Addr → Option Tag) : List (List Addr) → Nat → Addr → Option Tag
  | [], _ => own
  | f :: fs, j => fun a => if a ∈ f then some (.slot j) else ownPar own fs (j + 1) a
theorem ROs.split {xs : List MV} {vs : List V} : ROs K c n xs vs fp → ∃ fs : List (List Addr), fp = fs.flatten ∧ fs.length = xs.length ∧ ∀ (j : Nat) (x : MV), xs[j]? = some x → ∃ v f, vs[j]? = some v ∧ fs[j]? = some f ∧ RO K c n x v f := by
  induction xs generalizing vs fp with
  | nil =>
    intro h
    obtain ⟨rfl, rfl⟩ := h.inil
    exact ⟨[], rfl, rfl, fun j x e => by simp at e⟩
  | cons x xs ih =>
    intro h
    obtain ⟨v, ws, f, g, rfl, rfl, r, t⟩ := h.inv
    obtain ⟨fs, e1, e2, e3⟩ := ih t
    refine ⟨f :: fs, by rw [e1]; rfl, congrArg (· + 1) e2, fun j y e => ?_⟩
    cases j with
    | zero =>
      simp at e
      subst e
      exact ⟨v, f, rfl, rfl, r⟩
    | succ j => simpa using e3 j y (by simpa using e)
theorem ownPar_in {own : Addr → Option Tag} {a : Addr} : ∀ {fs : List (List Addr)} {k j : Nat} {f : List Addr}, fs.flatten.Nodup → fs[j]? = some f → a ∈ f → ownPar own fs k a = some (.slot (k + j))
  | [], _, _, _, _, e, _ => by simp at e
  | g :: fs, k, 0, f, _, e, h => by
    simp at e
    subst e
    exact if_pos h
  | g :: fs, k, j + 1, f, nd, e, h => by
    have e' : fs[j]? = some f := by simpa using e
    rw [List.flatten_cons] at nd
    have out : a ∉ g := fun z => (List.nodup_append.mp nd).2.2 a z a (List.mem_flatten.mpr ⟨f, List.mem_of_getElem? e', h⟩) rfl
    show (if a ∈ g then _ else ownPar own fs (k + 1) a) = _
    rw [if_neg out, ownPar_in (List.nodup_append.mp nd).2.1 e' h, show k + 1 + j = k + (j + 1) by omega]
theorem ownPar_out {own : Addr → Option Tag} {a : Addr} : ∀ {fs : List (List Addr)} {k : Nat}, a ∉ fs.flatten → ownPar own fs k a = own a
  | [], _, _ => rfl
  | g :: fs, k, h => by
    rw [List.flatten_cons] at h
    show (if a ∈ g then _ else ownPar own fs (k + 1) a) = _
    rw [if_neg fun z => h (List.mem_append_left _ z), ownPar_out fun z => h (List.mem_append_right _ z)]
theorem ownPar_some {own : Addr → Option Tag} {a : Addr} : ∀ {fs : List (List Addr)} {k : Nat}, a ∈ fs.flatten → ∃ j, ownPar own fs k a = some (.slot j)
  | [], _, h => nomatch h
  | g :: fs, k, h => by
    show ∃ j, (if a ∈ g then some (Tag.slot k) else ownPar own fs (k + 1) a) = _
    by_cases z : a ∈ g
    · exact ⟨k, if_pos z⟩
    · rw [if_neg z]
      rw [List.flatten_cons] at h
      exact ownPar_some ((List.mem_append.mp h).resolve_left z)

def pinsP (vs : List V) : List Nat → List (Nat × V)
  | [] => []
  | j :: js => (j, vs.getD j .non) :: pinsP vs js
theorem pinsP_map {vs : List V} : ∀ js : List Nat, (pinsP vs js).map (·.1) = js
  | [] => rfl
  | j :: js => congrArg (j :: ·) (pinsP_map js)
theorem pinsP_mem {vs : List V} {j : Nat} {v : V} : ∀ {js : List Nat}, (j, v) ∈ pinsP vs js → j ∈ js ∧ v = vs.getD j .non
  | k :: js, h => by
    rcases List.mem_cons.mp h with e | h
    · cases e; exact ⟨List.mem_cons_self, rfl⟩
    · exact ⟨List.mem_cons_of_mem _ (pinsP_mem h).1, (pinsP_mem h).2⟩
theorem mem_pinsP {vs : List V} {j : Nat} : ∀ {js : List Nat}, j ∈ js → (j, vs.getD j .non) ∈ pinsP vs js
  | k :: js, h => by
    rcases List.mem_cons.mp h with e | h
    · subst e; exact List.mem_cons_self
    · exact List.mem_cons_of_mem _ (mem_pinsP h)
theorem start_get {N : List Str} {vs : List V} {j : Nat} {v : V} (h : vs[j]? = some v) : (L2.start N vs)[j]? = some (some v) := by
  unfold L2.start
  have hl : j < (vs.map some).length := by rw [List.length_map]; exact (List.getElem?_eq_some_iff.mp h).1
  rw [List.getElem?_append_left hl, List.getElem?_map, h]
  rfl
/-- the state at a def's entry -/
theorem Rel.enter {N : List Str} {pins : List Nat} {xs : List MV} {vs : List V} {h : List MO} (R : Rel K c [] [] (Sm.bare h)) (r : ROs K c h.length xs vs fp) (t : Tmp c fp) (hN : vs.length ≤ N.length) (hp : ∀ j ∈ pins, j < vs.length) :
    ∃ c1, c1.H = c.H ∧ Rel K c1 (L2.start N vs) (pinsP vs pins) ⟨xs.map some ++ List.replicate (N.length - xs.length) none, h, pins⟩ ∧ (∀ a, a ∉ fp → c1.own a = c.own a) ∧ (∀ a ∈ fp, ∃ j, c1.own a = some (.slot j)) ∧ c1.ι = c.ι := by
  obtain ⟨fs, e1, e2, e3⟩ := r.split
  subst e1
  have fr : ∀ a, c.own a = some .fro → ownPar c.own fs 0 a = some .fro := fun a e => by
    rw [ownPar_out fun z => by rw [t.un a z] at e; cases e]; exact e
  refine ⟨⟨c.ι, ownPar c.own fs 0, c.H⟩, rfl, ⟨?_, fun j mv e => ?_, fun k o e => ?_, fun a u e => ?_, pinsP_map pins, fun j v e => ?_⟩, fun a z => ownPar_out z, fun a z => ownPar_some z, rfl⟩
  · unfold L2.start
    simp only [List.length_append, List.length_map, List.length_replicate]
    rw [r.length]
  · have hj : j < xs.length := by
      rcases Nat.lt_or_ge j xs.length with z | z
      · exact z
      · have e : (xs.map some ++ List.replicate (N.length - xs.length) none)[j]? = some (some mv) := e
        rw [List.getElem?_append_right (by rw [List.length_map]; exact z)] at e
        have := List.mem_of_getElem? e
        simp at this
    have e' : xs[j]? = some mv := by
      have e : (xs.map some ++ List.replicate (N.length - xs.length) none)[j]? = some (some mv) := e
      rw [List.getElem?_append_left (by rw [List.length_map]; exact hj), List.getElem?_map] at e
      obtain ⟨y, e4, e5⟩ := Option.map_eq_some_iff.mp e
      cases e5; exact e4
    obtain ⟨v, f, h1, h2, h3⟩ := e3 j mv e'
    refine ⟨v, f, start_get h1, h3.re2 ⟨c.ι, ownPar c.own fs 0, c.H⟩ rfl (fun _ _ => rfl) (Nat.le_refl _) fr, ?_, fun a z => ?_⟩
    · exact List.Nodup.sublist (List.sublist_flatten_of_mem (List.mem_of_getElem? h2)) t.nd
    · have := ownPar_in (own := c.own) (k := 0) t.nd h2 z
      rwa [Nat.zero_add] at this
  · obtain ⟨h1, h2⟩ := R.heap k o e
    have out : c.ι k ∉ fs.flatten := fun z => by rw [t.un _ z] at h1; cases h1
    refine ⟨(ownPar_out out).trans h1, ?_⟩
    cases h2 with
    | lst q r => exact .lst q (r.re2 ⟨c.ι, ownPar c.own fs 0, c.H⟩ rfl (fun _ _ => rfl) (Nat.le_refl _) fr)
  · show Mut (c.H a)
    by_cases z : a ∈ fs.flatten
    · obtain ⟨us, q⟩ := r.at a z
      rw [q]; trivial
    · exact R.mok a u ((ownPar_out z).symm.trans e)
  · obtain ⟨h1, rfl⟩ := pinsP_mem e
    have hl := hp j h1
    refine start_get ?_
    rw [List.getD_eq_getElem?_getD, List.getElem?_eq_getElem hl]
    rfl
theorem fin_ok {pins : List Nat} {s : Sm} {vs : List V} (R : Rel K c σ p s) (hp : ∀ j ∈ pins, ∀ v, vs[j]? = some v → σ[j]? = some (some v)) (m : Nat) :
    ∀ (k : Nat), m + k = vs.length → ∃ ff, FinOk K c s.h.length ((List.range' m k).map (finOf s pins)) (vs.drop m) ff ∧ ff.Nodup ∧ ∀ a ∈ ff, ∃ j, m ≤ j ∧ c.own a = some (.slot j) := by
  intro k
  induction k generalizing m with
  | zero => exact fun _ => ⟨[], .nil, List.nodup_nil, fun _ z => nomatch z⟩
  | succ k ih =>
    intro hk
    obtain ⟨ff, h1, h2, h3⟩ := ih (m + 1) (by omega)
    have hm : m < vs.length := by omega
    rw [List.drop_eq_getElem_cons hm, List.range'_succ, List.map_cons]
    have up : ∀ a ∈ ff, ∃ j, m ≤ j ∧ c.own a = some (.slot j) := fun a z => let ⟨j, h4, h5⟩ := h3 a z; ⟨j, by omega, h5⟩
    by_cases e : ∃ v, finOf s pins m = some v
    · obtain ⟨v, e⟩ := e
      have e' := e
      unfold finOf at e'
      split at e'
      · rename_i hmp
        split at e'
        · rename_i w ew
          split at e'
          · rename_i hs
            cases e'
            obtain ⟨u, fp, g1, g2, g3, g4⟩ := R.slot m v ew
            have g0 := hp m hmp vs[m] (by simp [hm])
            rw [g0] at g1
            cases g1
            rw [e]
            refine ⟨fp ++ ff, .some g2 hs.2 h1, List.nodup_append.mpr ⟨g3, h2, fun a z b z' q => ?_⟩, fun a z => ?_⟩
            · subst q
              obtain ⟨j, h4, h5⟩ := h3 a z'
              rw [g4 a z] at h5
              cases h5
              omega
            · rcases List.mem_append.mp z with z | z
              · exact ⟨m, Nat.le_refl _, g4 a z⟩
              · exact up a z
          · cases e'
        · cases e'
      · cases e'
    · have en : finOf s pins m = none := by
        cases q : finOf s pins m with
        | none => rfl
        | some v => exact absurd ⟨v, q⟩ e
      rw [en]
      exact ⟨ff, .none h1, h2, up⟩
theorem finOk_re {fs : List (Option MV)} {vs : List V} {ff : List Addr} (h : FinOk K c n fs vs ff) (c' : Cfg) (eH : c'.H = c.H) (ei : ∀ k, k < n → c'.ι k = c.ι k) (le : n ≤ n') (fr : ∀ a, c.own a = some Tag.fro → c'.own a = some Tag.fro) : FinOk K c' n' fs vs ff := by
  induction h with
  | nil => exact .nil
  | none _ ih => exact .none ih
  | some r s _ ih => exact .some (r.re2 c' eH ei le fr) s ih
/-- a body's ends, for a def's promise -/
theorem leave {N : List Str} {pins : List Nat} {xs : List MV} {vs : List V} {h : List MO} {ca : Str → Option Addr} {Q : VK} {E : XK} {b : MS} {m : Nat} (hl : xs.length = vs.length) (hN : vs.length ≤ N.length) (hp : ∀ j ∈ pins, j < vs.length) (hm : m = N.length)
    (R : Rel K c [] [] (Sm.bare h)) (r : ROs K c h.length xs vs fp) (t : Tmp c fp) (q : PostF K ca (c.tag fp (some (.slot 0))) h.length vs (mkFn m pins b xs h) Q E) :
    RS ⟨K, fun cls d _ H => E cls d H, ca⟩ b { nx := fun _ H' => Q .non H', rt := Q } (L2.start N vs) c.H := by
  obtain ⟨c1, eH, R1, o1, o2, ei⟩ := R.enter (N := N) (pins := pins) r t hN hp
  refine ⟨c1, pinsP vs pins, _, eH, R1, ?_⟩
  subst hm
  unfold mkFn at q
  -- from the promise's base to the body's
  have base : ∀ {c' : Cfg} {n' : Nat}, Keep c1 h.length c' n' → Keep (c.tag fp (some (.slot 0))) h.length c'.clr n' := fun {c' n'} k => by
    refine ⟨k.le, fun j hj => (k.ι j hj).trans (by rw [ei]; rfl), fun a o e e' => ?_, fun a o e e' => ?_⟩
    · have out : a ∉ fp := fun z => by
        have e' : setOwn c.own fp (some (.slot 0)) a = none := e'
        rw [setOwn_in z] at e'; cases e'
      have e2 : c.own a = none := (setOwn_out out).symm.trans e'
      obtain ⟨g1, g2⟩ := k.un a o (by rw [eH]; exact e) ((o1 a out).trans e2)
      exact ⟨g1, clr_none g2⟩
    · have out : a ∉ fp := fun z => by
        have e' : setOwn c.own fp (some (.slot 0)) a = some .fro := e'
        rw [setOwn_in z] at e'; cases e'
      have e2 : c.own a = some .fro := (setOwn_out out).symm.trans e'
      obtain ⟨g1, g2⟩ := k.fro a o (by rw [eH]; exact e) ((o1 a out).trans e2)
      exact ⟨g1, clr_fro _ g2⟩
  have fre : ∀ {f : List Addr}, Fresh c1 f → Fresh (c.tag fp (some (.slot 0))) f := fun {f} hf a z => by
    rcases hf a z with e | e
    · left; show c.H a = none; rw [← eH]; exact e
    · right
      show setOwn c.own fp (some (.slot 0)) a ≠ none
      by_cases zz : a ∈ fp
      · rw [setOwn_in zz]; exact fun w => by cases w
      · rw [setOwn_out zz, ← o1 a zz]; exact e
  have pin' : ∀ {c' : Cfg} {σ' : St} {s' : Sm}, Rel K c' σ' (pinsP vs pins) s' → ∀ j ∈ pins, ∀ v, vs[j]? = some v → σ'[j]? = some (some v) := fun {c' σ' s'} R' j hj v hv => by
    have := R'.pinv j _ (mem_pinsP (vs := vs) hj)
    rw [this, List.getD_eq_getElem?_getD, hv]
    rfl
  have fins : ∀ {c' : Cfg} {σ' : St} {s' : Sm}, Rel K c' σ' (pinsP vs pins) s' → Keep c1 h.length c' s'.h.length → ∃ ff, FinOk K c'.clr s'.h.length (finsOf s' pins xs.length) vs ff ∧ Tmp c'.clr ff ∧ Fresh c1 ff ∧ ∀ a ∈ ff, ∃ j, c'.own a = some (.slot j) := fun {c' σ' s'} R' k => by
    obtain ⟨ff, h1, h2, h3⟩ := fin_ok R' (pin' R') 0 vs.length (Nat.zero_add _)
    rw [List.drop_zero] at h1
    refine ⟨ff, ?_, ⟨h2, fun a z => let ⟨j, _, e⟩ := h3 a z; clr_slot e⟩, fun a z => ?_, fun a z => let ⟨j, _, e⟩ := h3 a z; ⟨j, e⟩⟩
    · unfold finsOf
      rw [hl, List.range_eq_range']
      exact finOk_re h1 c'.clr rfl (fun _ _ => rfl) (Nat.le_refl _) clr_fro
    · obtain ⟨j, _, e⟩ := h3 a z
      cases g : c1.H a with
      | none => exact .inl rfl
      | some o =>
        right
        intro w
        have := (k.un a o g w).2
        rw [e] at this; cases this
  revert q
  cases b ⟨xs.map some ++ List.replicate (N.length - xs.length) none, h, pins⟩ with
  | nx s' =>
    intro q c' σ' R' k
    obtain ⟨ff, f1, f2, f3, _⟩ := fins R' k
    exact q c'.clr .non [] ff R'.bareOf clr_noslot (base k) .non f1 f2 (fre f3)
  | rt x s' =>
    intro q c' σ' v fp' R' k r' t' f'
    obtain ⟨ff, f1, f2, f3, f4⟩ := fins R' k
    refine q c'.clr v fp' ff R'.bareOf clr_noslot (base k) (r'.re2 c'.clr rfl (fun _ _ => rfl) (Nat.le_refl _) clr_fro) f1 ?_ ((fre f').app (fre f3))
    refine Tmp.app ⟨t'.nd, fun a z => clr_none (t'.un a z)⟩ f2 fun a z z' => ?_
    obtain ⟨j, e⟩ := f4 a z'
    rw [t'.un a z] at e; cases e
  | exc e s' =>
    intro q c' σ' C d R' k x
    refine q c'.clr C d R'.bareOf clr_noslot (base k) ?_
    obtain ⟨x1, x2, x3, x4⟩ := x
    exact .mk x1 x2 x3 (x4.re2 c'.clr rfl (fun _ _ => rfl) (Nat.le_refl _) clr_fro)
  | bk s' => exact fun q => q.elim
  | ct s' => exact fun q => q.elim
  | stuck => exact fun q => q.elim

/-! #### a call -/
/-- what is lent stands in slots that are empty now -/
theorem lend_ok : ∀ {xs as : List MV} {vs : List V} {fp : List Addr} {s s0 s1 : Sm}, (∀ (j : Nat) (mv : MV), s.σ[j]? = some (some mv) → s0.σ[j]? = some (some mv)) → Rel K c σ p s0 → s.h = s0.h → RXs K c s0.h.length σ xs vs fp → Tmp c fp → lend xs s = some (as, s1) →
    ∃ (fA : List Addr) (L : List Nat), ROs K c s0.h.length as vs fA ∧ fA.Nodup ∧ (∀ a ∈ fA, (a ∈ fp ∧ c.own a = none) ∨ ∃ i ∈ L, c.own a = some (.slot i) ∧ ∃ mv, s.σ[i]? = some (some mv)) ∧ (∀ x ∈ as, x.slotable = true) ∧ s1.h = s.h ∧ s1.pin = s.pin ∧ s1.σ.length = s.σ.length ∧
      (∀ (j : Nat) (mv : MV), s1.σ[j]? = some (some mv) → s.σ[j]? = some (some mv) ∧ j ∉ L) := by
  intro xs
  induction xs with
  | nil =>
    intro as vs fp s s0 s1 hs R hh r t e
    have e : some (([] : List MV), s) = some (as, s1) := e
    cases e
    cases r
    exact ⟨[], [], .nil, List.nodup_nil, fun _ z => (nomatch z), fun _ z => (nomatch z), rfl, rfl, rfl, fun j mv h => ⟨h, fun z => nomatch z⟩⟩
  | cons x xs ih =>
    intro as vs fp s s0 s1 hs R hh r t e
    cases r with
    | cons r1 rt =>
      rename_i v ws f g
      by_cases hx : ∃ i, x = .sl i
      · obtain ⟨i, rfl⟩ := hx
        unfold lend at e
        cases r1 with
        | val r1 => cases r1
        | sl hv =>
          split at e
          · rename_i w ew
            split at e
            · rename_i hw
              split at e
              · rename_i as' s' e'
                cases e
                obtain ⟨u, fw, h1, h2, h3, h4⟩ := R.slot i w (hs i w ew)
                rw [hv] at h1
                cases h1
                have hs' : ∀ j mv, (s.out i).σ[j]? = some (some mv) → s0.σ[j]? = some (some mv) := fun j mv h => by
                  rcases set_get h with ⟨_, z⟩ | ⟨_, z⟩
                  · cases z
                  · exact hs j mv z
                obtain ⟨fA, L, g1, g2, g3, g4, g5, g6, g7, g8⟩ := ih (s := s.out i) hs' R hh rt t.right e'
                refine ⟨fw ++ fA, i :: L, .cons h2 g1, List.nodup_append.mpr ⟨h3, g2, fun a z b z' q => ?_⟩, fun a z => ?_, fun y hy => ?_, g5, g6, ?_, fun j mv h => ?_⟩
                · subst q
                  rcases g3 a z' with ⟨_, q⟩ | ⟨j, _, q, mv, qm⟩
                  · rw [h4 a z] at q; cases q
                  · rw [h4 a z] at q
                    cases q
                    rcases set_get qm with ⟨_, w⟩ | ⟨ne, _⟩
                    · cases w
                    · exact ne rfl
                · rcases List.mem_append.mp z with z | z
                  · exact .inr ⟨i, List.mem_cons_self, h4 a z, w, ew⟩
                  · rcases g3 a z with ⟨q1, q2⟩ | ⟨j, q1, q2, mv, q3⟩
                    · exact .inl ⟨List.mem_append_right _ q1, q2⟩
                    · refine .inr ⟨j, List.mem_cons_of_mem _ q1, q2, mv, ?_⟩
                      rcases set_get q3 with ⟨_, w⟩ | ⟨_, w⟩
                      · cases w
                      · exact w
                · rcases List.mem_cons.mp hy with e | hy
                  · subst e; exact hw
                  · exact g4 y hy
                · rw [g7]; exact List.length_set ..
                · obtain ⟨q1, q2⟩ := g8 j mv h
                  rcases set_get q1 with ⟨_, w⟩ | ⟨ne, w⟩
                  · cases w
                  · exact ⟨w, fun z => by
                      rcases List.mem_cons.mp z with z | z
                      · exact ne z
                      · exact q2 z⟩
              · cases e
            · cases e
          · cases e
      · have e2 : (if x.slotable = true then (match lend xs s with | some (as, s') => some (x :: as, s') | none => none) else none) = some (as, s1) := by
          cases x <;> first | exact e | exact absurd ⟨_, rfl⟩ hx
        split at e2
        · rename_i hw
          split at e2
          · rename_i as' s' e'
            cases e2
            obtain ⟨fA, L, g1, g2, g3, g4, g5, g6, g7, g8⟩ := ih hs R hh rt t.right e'
            have r1' := r1.ro fun i q => hx ⟨i, q⟩
            refine ⟨f ++ fA, L, .cons r1' g1, List.nodup_append.mpr ⟨t.left.nd, g2, fun a z b z' q => ?_⟩, fun a z => ?_, fun y hy => ?_, g5, g6, g7, g8⟩
            · subst q
              rcases g3 a z' with ⟨q, _⟩ | ⟨j, _, q, _⟩
              · exact (List.nodup_append.mp t.nd).2.2 a z a q rfl
              · rw [t.left.un a z] at q; cases q
            · rcases List.mem_append.mp z with z | z
              · exact .inl ⟨List.mem_append_left _ z, t.left.un a z⟩
              · rcases g3 a z with ⟨q1, q2⟩ | q
                · exact .inl ⟨List.mem_append_right _ q1, q2⟩
                · exact .inr q
            · rcases List.mem_cons.mp hy with e | hy
              · subst e; exact hw
              · exact g4 y hy
          · cases e2
        · cases e2
theorem giveBack_h : ∀ (xs : List MV) (fs : List (Option MV)) (s : Sm), (giveBack xs fs s).h = s.h := by
  intro xs
  induction xs with
  | nil => intro fs s; cases fs <;> rfl
  | cons x xs ih =>
    intro fs s
    cases fs with
    | nil => cases x <;> rfl
    | cons f fs =>
      cases x <;> first | exact ih fs s | skip
      cases f with
      | none => exact ih fs s
      | some v => exact ih fs _
/-- the slots have their lists back -/
theorem giveBack_ok {x : MV} {v : V} {g : List Addr} : ∀ {xs : List MV} {fs : List (Option MV)} {vs : List V} {ff fx : List Addr} {c : Cfg} {s : Sm} {nX : Nat}, RXs K c1 nX σ xs vs fx → Rel K c σ p s → Keep c0 n0 c s.h.length → FinOk K c s.h.length fs vs ff → Tmp c (g ++ ff) → Fresh c0 ff → RO K c s.h.length x v g →
    ∃ c3, c3.H = c.H ∧ Rel K c3 σ p (giveBack xs fs s) ∧ Keep c0 n0 c3 s.h.length ∧ RO K c3 s.h.length x v g ∧ Tmp c3 g := by
  intro xs
  induction xs with
  | nil =>
    intro fs vs ff fx c s nX rx R k fo t f r
    refine ⟨c, rfl, ?_, k, r, t.left⟩
    cases fs <;> exact R
  | cons y ys ih =>
    intro fs vs ff fx c s nX rx R k fo t f r
    cases rx with
    | cons ry rt =>
    cases fo with
    | nil =>
      refine ⟨c, rfl, ?_, k, r, t.left⟩
      cases y <;> exact R
    | none fo =>
      have := ih rt R k fo t f r
      cases y <;> exact this
    | some rf hs fo =>
      rename_i mv f1 g1 fs'
      by_cases hy : ∃ i, y = .sl i
      · obtain ⟨i, rfl⟩ := hy
        cases ry with
        | val ry => cases ry
        | sl hv =>
          have t1 : Tmp c f1 := t.right.left
          obtain ⟨R2, k2⟩ := R.restore (i := i) hv k rf t1 (fun a z => f a (List.mem_append_left _ z))
          have nf : ∀ a ∈ f1, c.own a ≠ some .fro := fun a z q => by rw [t1.un a z] at q; cases q
          have fr := tag_fro (t := some (Tag.slot i)) nf
          have dis : ∀ a ∈ g ++ g1, a ∉ f1 := fun a z z' => by
            rcases List.mem_append.mp z with z | z
            · exact (List.nodup_append.mp t.nd).2.2 a z a (List.mem_append_left _ z') rfl
            · exact (List.nodup_append.mp t.right.nd).2.2 a z' a z rfl
          have t2 : Tmp (c.tag f1 (some (.slot i))) (g ++ g1) := by
            refine ⟨?_, fun a z => (setOwn_out (dis a z)).trans ?_⟩
            · refine List.nodup_append.mpr ⟨t.left.nd, t.right.right.nd, fun a z b z' q => ?_⟩
              exact (List.nodup_append.mp t.nd).2.2 a z b (List.mem_append_right _ z') q
            · rcases List.mem_append.mp z with z | z
              · exact t.left.un a z
              · exact t.right.right.un a z
          obtain ⟨c3, e3, R3, k3, r3, t3⟩ := ih (s := s.put i mv) rt R2 k2 (finOk_re fo (c.tag f1 (some (.slot i))) rfl (fun _ _ => rfl) (Nat.le_refl _) fr) t2 (fun a z => f a (List.mem_append_right _ z)) (r.re2 (c.tag f1 (some (.slot i))) rfl (fun _ _ => rfl) (Nat.le_refl _) fr)
          exact ⟨c3, e3, R3, k3, r3, t3⟩
      · have t2 : Tmp c (g ++ g1) := by
          refine ⟨List.nodup_append.mpr ⟨t.left.nd, t.right.right.nd, fun a z b z' q => (List.nodup_append.mp t.nd).2.2 a z b (List.mem_append_right _ z') q⟩, fun a z => ?_⟩
          rcases List.mem_append.mp z with z | z
          · exact t.left.un a z
          · exact t.right.right.un a z
        have := ih rt R k fo t2 (fun a z => f a (List.mem_append_right _ z)) r
        cases y <;> first | exact this | exact absurd ⟨_, rfl⟩ hy
end
section
variable {Γ : Gam} {c c0 : Cfg} {n0 : Nat} {σ : St} {p : List (Nat × V)} {s : Sm}
theorem ok_call {f : Fn} {np : Nat} {xs : List MV} {vs : List V} {fp : List Addr} {Q : VK} (hl : vs.length = np) (R : Rel Γ.K c σ p s) (k : Keep c0 n0 c s.h.length) (r : RXs Γ.K c s.h.length σ xs vs fp) (t : Tmp c fp) (fr : Fresh c0 fp) (q : PostE Γ c0 n0 σ p (callF f xs s) Q) :
    spM Γ.K Γ.ca np f vs c.H Q fun cls d H => Γ.W cls d σ H := by
  unfold callF at q
  split at q
  · rename_i as s1 el
    obtain ⟨fA, L, h1, h2, h3, h4, h5, h6, h7, h8⟩ := lend_ok (fun _ _ h => h) R rfl r t el
    have h1c : ROs Γ.K c.clr s1.h.length as vs fA := by rw [h5]; exact h1.re2 c.clr rfl (fun _ _ => rfl) (Nat.le_refl _) clr_fro
    have Rb : Rel Γ.K c.clr [] [] (Sm.bare s1.h) := by rw [h5]; exact R.bareOf
    have tA : Tmp c.clr fA := ⟨h2, fun a z => by
      rcases h3 a z with ⟨_, e⟩ | ⟨i, _, e, _⟩
      · exact clr_none e
      · exact clr_slot e⟩
    refine ⟨c.clr, as, s1.h, fA, rfl, hl, by rw [← hl]; exact h1.length, Rb, clr_noslot, h1c, h4, tA, ?_⟩
    -- what the callee keeps of ours
    have ckn : ∀ a, a ∉ fA → (c.own a = none ∨ ∃ i, c.own a = some (.slot i)) → (c.clr.tag fA (some (.slot 0))).own a = none := fun a z e => by
      refine (setOwn_out z).trans ?_
      rcases e with e | ⟨i, e⟩
      · exact clr_none e
      · exact clr_slot e
    have ckf : ∀ a, c.own a = some .fro → (c.clr.tag fA (some (.slot 0))).own a = some .fro := fun a e => by
      have z : a ∉ fA := fun z => by
        rcases h3 a z with ⟨_, e2⟩ | ⟨i, _, e2, _⟩ <;> (rw [e] at e2; cases e2)
      exact (setOwn_out z).trans (clr_fro a e)
    have nfA : ∀ a ∈ fA, c.own a ≠ some .fro := fun a z e => by
      rcases h3 a z with ⟨_, e2⟩ | ⟨i, _, e2, _⟩ <;> (rw [e] at e2; cases e2)
    have old : ∀ a o, c0.H a = some o → c0.own a = none → a ∉ fA ∧ c.H a = some o ∧ c.own a = none := fun a o e e' => by
      obtain ⟨g1, g2⟩ := k.un a o e e'
      refine ⟨fun z => ?_, g1, g2⟩
      rcases h3 a z with ⟨z1, _⟩ | ⟨i, _, e2, _⟩
      · rcases fr a z1 with w | w
        · rw [e] at w; cases w
        · exact w e'
      · rw [g2] at e2; cases e2
    revert q
    have hlen : s1.h.length = s.h.length := by rw [h5]
    cases f as s1.h with
    | stuck => exact fun q => q.elim
    | exc e h =>
      intro q c' C d Rc ns kc x
      -- the slots that were not lent
      let c2 : Cfg := ⟨c'.ι, fun a => match c'.own a with
        | some t => some t
        | none => if a ∈ fA then none else (match c.own a with
          | some (.slot i) => some (.slot i)
          | _ => none), c'.H⟩
      have own2 : ∀ a t, c'.own a = some t → c2.own a = some t := fun a t e => by
        show (match c'.own a with | some t => some t | none => _) = _
        rw [e]
      have fr2 : ∀ a, c'.own a = some .fro → c2.own a = some .fro := fun a e => own2 a _ e
      have R2 : Rel Γ.K c2 σ p { s1 with h := h } := by
        refine ⟨by rw [R.len]; exact h7.symm, fun i mv e0 => ?_, fun j o e0 => ?_, fun a t e0 => ?_, by rw [R.pinl]; exact h6.symm, R.pinv⟩
        · obtain ⟨e1, e2⟩ := h8 i mv e0
          obtain ⟨v, fi, g1, g2, g3, g4⟩ := R.slot i mv e1
          have out : ∀ a ∈ fi, a ∉ fA := fun a z z' => by
            rcases h3 a z' with ⟨_, w⟩ | ⟨j, hj, w, _⟩
            · rw [g4 a z] at w; cases w
            · rw [g4 a z] at w; cases w; exact e2 hj
          have st : ∀ a ∈ fi, c'.H a = c.H a ∧ c'.own a = none := fun a z => by
            obtain ⟨us, w⟩ := g2.at a z
            obtain ⟨w1, w2⟩ := kc.un a _ w (ckn a (out a z) (.inr ⟨i, g4 a z⟩))
            exact ⟨w1.trans w.symm, w2⟩
          have g2' : RO Γ.K (c.clr.tag fA (some (.slot 0))) s1.h.length mv v fi := g2.re2 (c.clr.tag fA (some (.slot 0))) rfl (fun _ _ => rfl) (Nat.le_of_eq hlen.symm) ckf
          have mk' : MutOk (c.clr.tag fA (some (.slot 0))) := mok_tag Rb.mok h1c.at
          refine ⟨v, fi, g1, (g2'.keep mk' kc fun a z => (st a z).1).re2 c2 rfl (fun _ _ => rfl) (Nat.le_refl _) fr2, g3, fun a z => ?_⟩
          show (match c'.own a with | some t => some t | none => if a ∈ fA then none else (match c.own a with | some (.slot i) => some (.slot i) | _ => none)) = _
          rw [(st a z).2]
          dsimp only
          rw [if_neg (out a z), g4 a z]
        · obtain ⟨g1, g2⟩ := Rc.heap j o e0
          refine ⟨own2 _ _ g1, ?_⟩
          cases g2 with
          | lst w r => exact .lst w (r.re2 c2 rfl (fun _ _ => rfl) (Nat.le_refl _) fr2)
        · have e0 : (match c'.own a with | some t => some t | none => if a ∈ fA then none else (match c.own a with | some (.slot i) => some (.slot i) | _ => none)) = some t := e0
          show Mut (c'.H a)
          split at e0
          · rename_i u eu
            exact Rc.mok a u eu
          · split at e0
            · cases e0
            · rename_i za
              split at e0
              · rename_i i ei
                have m := R.mok a _ ei
                cases eo : c.H a with
                | none => rw [eo] at m; exact m.elim
                | some o =>
                  rw [eo] at m
                  rw [(kc.un a o eo (ckn a za (.inr ⟨i, ei⟩))).1]
                  exact m
              · cases e0
      have k2 : Keep c0 n0 c2 h.length := by
        refine ⟨Nat.le_trans k.le (by rw [← hlen]; exact kc.le), fun j hj => (kc.ι j (by rw [hlen]; exact Nat.lt_of_lt_of_le hj k.le)).trans (k.ι j hj), fun a o e1 e2 => ?_, fun a o e1 e2 => ?_⟩
        · obtain ⟨z, g1, g2⟩ := old a o e1 e2
          obtain ⟨w1, w2⟩ := kc.un a o g1 (ckn a z (.inl g2))
          refine ⟨w1, ?_⟩
          show (match c'.own a with | some t => some t | none => if a ∈ fA then none else (match c.own a with | some (.slot i) => some (.slot i) | _ => none)) = none
          rw [w2]
          dsimp only
          rw [if_neg z, g2]
        · obtain ⟨g1, g2⟩ := k.fro a o e1 e2
          obtain ⟨w1, w2⟩ := kc.fro a o g1 (ckf a g2)
          exact ⟨w1, fr2 a w2⟩
      obtain ⟨x1, x2, x3, x4⟩ := x
      exact q c2 C d R2 k2 (.mk x1 x2 x3 (x4.re2 c2 rfl (fun _ _ => rfl) (Nat.le_refl _) fr2))
    | ok x fin h =>
      intro q c' v fR ff Rc ns kc rR fo tR fF
      let c2 : Cfg := ⟨c'.ι, fun a => match c'.own a with
        | some t => some t
        | none => if a ∈ fA then none else (match c.own a with
          | some (.slot i) => some (.slot i)
          | _ => none), c'.H⟩
      have own2 : ∀ a t, c'.own a = some t → c2.own a = some t := fun a t e => by
        show (match c'.own a with | some t => some t | none => _) = _
        rw [e]
      have fr2 : ∀ a, c'.own a = some .fro → c2.own a = some .fro := fun a e => own2 a _ e
      have R2 : Rel Γ.K c2 σ p { s1 with h := h } := by
        refine ⟨by rw [R.len]; exact h7.symm, fun i mv e0 => ?_, fun j o e0 => ?_, fun a t e0 => ?_, by rw [R.pinl]; exact h6.symm, R.pinv⟩
        · obtain ⟨e1, e2⟩ := h8 i mv e0
          obtain ⟨v, fi, g1, g2, g3, g4⟩ := R.slot i mv e1
          have out : ∀ a ∈ fi, a ∉ fA := fun a z z' => by
            rcases h3 a z' with ⟨_, w⟩ | ⟨j, hj, w, _⟩
            · rw [g4 a z] at w; cases w
            · rw [g4 a z] at w; cases w; exact e2 hj
          have st : ∀ a ∈ fi, c'.H a = c.H a ∧ c'.own a = none := fun a z => by
            obtain ⟨us, w⟩ := g2.at a z
            obtain ⟨w1, w2⟩ := kc.un a _ w (ckn a (out a z) (.inr ⟨i, g4 a z⟩))
            exact ⟨w1.trans w.symm, w2⟩
          have g2' : RO Γ.K (c.clr.tag fA (some (.slot 0))) s1.h.length mv v fi := g2.re2 (c.clr.tag fA (some (.slot 0))) rfl (fun _ _ => rfl) (Nat.le_of_eq hlen.symm) ckf
          have mk' : MutOk (c.clr.tag fA (some (.slot 0))) := mok_tag Rb.mok h1c.at
          refine ⟨v, fi, g1, (g2'.keep mk' kc fun a z => (st a z).1).re2 c2 rfl (fun _ _ => rfl) (Nat.le_refl _) fr2, g3, fun a z => ?_⟩
          show (match c'.own a with | some t => some t | none => if a ∈ fA then none else (match c.own a with | some (.slot i) => some (.slot i) | _ => none)) = _
          rw [(st a z).2]
          dsimp only
          rw [if_neg (out a z), g4 a z]
        · obtain ⟨g1, g2⟩ := Rc.heap j o e0
          refine ⟨own2 _ _ g1, ?_⟩
          cases g2 with
          | lst w r => exact .lst w (r.re2 c2 rfl (fun _ _ => rfl) (Nat.le_refl _) fr2)
        · have e0 : (match c'.own a with | some t => some t | none => if a ∈ fA then none else (match c.own a with | some (.slot i) => some (.slot i) | _ => none)) = some t := e0
          show Mut (c'.H a)
          split at e0
          · rename_i u eu
            exact Rc.mok a u eu
          · split at e0
            · cases e0
            · rename_i za
              split at e0
              · rename_i i ei
                have m := R.mok a _ ei
                cases eo : c.H a with
                | none => rw [eo] at m; exact m.elim
                | some o =>
                  rw [eo] at m
                  rw [(kc.un a o eo (ckn a za (.inr ⟨i, ei⟩))).1]
                  exact m
              · cases e0
      have k2 : Keep c0 n0 c2 h.length := by
        refine ⟨Nat.le_trans k.le (by rw [← hlen]; exact kc.le), fun j hj => (kc.ι j (by rw [hlen]; exact Nat.lt_of_lt_of_le hj k.le)).trans (k.ι j hj), fun a o e1 e2 => ?_, fun a o e1 e2 => ?_⟩
        · obtain ⟨z, g1, g2⟩ := old a o e1 e2
          obtain ⟨w1, w2⟩ := kc.un a o g1 (ckn a z (.inl g2))
          refine ⟨w1, ?_⟩
          show (match c'.own a with | some t => some t | none => if a ∈ fA then none else (match c.own a with | some (.slot i) => some (.slot i) | _ => none)) = none
          rw [w2]
          dsimp only
          rw [if_neg z, g2]
        · obtain ⟨g1, g2⟩ := k.fro a o e1 e2
          obtain ⟨w1, w2⟩ := kc.fro a o g1 (ckf a g2)
          exact ⟨w1, fr2 a w2⟩
      have un2 : ∀ a ∈ fR ++ ff, c2.own a = none := fun a z => by
        show (match c'.own a with | some t => some t | none => if a ∈ fA then none else (match c.own a with | some (.slot i) => some (.slot i) | _ => none)) = none
        rw [tR.un a z]
        dsimp only
        by_cases za : a ∈ fA
        · rw [if_pos za]
        · rw [if_neg za]
          split
          · rename_i i ei
            have m := R.mok a _ ei
            cases eo : c.H a with
            | none => rw [eo] at m; exact m.elim
            | some o =>
              rcases fF a z with w | w
              · have w : c.H a = none := w
                rw [eo] at w; cases w
              · exact absurd (ckn a za (.inr ⟨i, ei⟩)) w
          · rfl
      have t2 : Tmp c2 (fR ++ ff) := ⟨tR.nd, un2⟩
      have f2 : Fresh c0 (fR ++ ff) := fun a z => by
        cases e1 : c0.H a with
        | none => exact .inl rfl
        | some o =>
          right
          intro e2
          obtain ⟨za, g1, g2⟩ := old a o e1 e2
          rcases fF a z with w | w
          · have w : c.H a = none := w
            rw [g1] at w; cases w
          · exact w (ckn a za (.inl g2))
      obtain ⟨c3, e3, R3, k3, r3, t3⟩ := giveBack_ok (s := { s1 with h := h }) r R2 k2 (finOk_re fo c2 rfl (fun _ _ => rfl) (Nat.le_refl _) fr2) t2 (fun a z => f2 a (List.mem_append_right _ z)) (rR.re2 c2 rfl (fun _ _ => rfl) (Nat.le_refl _) fr2)
      have hg : (giveBack xs fin { s1 with h := h }).h = h := giveBack_h _ _ _
      have eH : c3.H = c'.H := e3
      rw [← eH]
      refine q c3 v fR R3 (by rw [hg]; exact k3) (.val (by rw [hg]; exact r3)) t3 fun a z => f2 a (List.mem_append_left _ z)
  · exact q.elim
end
end Mir

namespace Mir
open PySem PySem.Spec L2

/-- a def of the module, by its mirror; dx: the defaults that are filled in -/
structure CalM (P : Program) (w : World) (K : PySem.W.Frag) (mg : Str → Option Value) (base : Heap) (ca : Str → Option Addr) (k : Nat) (x : Str) (np : Nat) (dx : List MV) (f : Fn) : Prop where
  ex : ∃ (a : Addr) (fd : FuncData) (ps : List Str) (dvs : List V) (ds : List Value), FnOk P w K mg base (L2.CX P w) k a fd ps (spM K ca np f) ∧ mg x = some (.ref a) ∧ PySem.W.keepIn K (.ref a) = true ∧ Binds K fd ps ds ∧ Vals dvs ds ∧ (∀ c n, ROs K c n dx dvs []) ∧ dx.all MV.stable = true
theorem CalM.mono {P : Program} {w : World} {K : PySem.W.Frag} {mg : Str → Option Value} {base : Heap} {ca : Str → Option Addr} {j k : Nat} {x : Str} {np : Nat} {dx : List MV} {f : Fn} (c : CalM P w K mg base ca j x np dx f) (h : j ≤ k) : CalM P w K mg base ca k x np dx f := by
  obtain ⟨a, fd, ps, dvs, ds, F, r⟩ := c.ex
  exact ⟨a, fd, ps, dvs, ds, F.mono h, r⟩
/-- the same by keywords ks behind n positional ones, in the parameters' own sequence -/
structure CalK (P : Program) (w : World) (K : PySem.W.Frag) (mg : Str → Option Value) (base : Heap) (ca : Str → Option Addr) (k : Nat) (x : Str) (np n : Nat) (ks : List Str) (f : Fn) : Prop where
  ex : ∃ (a : Addr) (fd : FuncData) (ps : List Str), FnOk P w K mg base (L2.CX P w) k a fd ps (spM K ca np f) ∧ mg x = some (.ref a) ∧ PySem.W.keepIn K (.ref a) = true ∧
    (∀ (s : Shared) (us ws : List Value), K.In s.heap → us.length = n → ws.length = ks.length → BindsTo s fd ⟨us, ks.zip ws⟩ (ps.zip (us ++ ws)))
theorem CalK.mono {P : Program} {w : World} {K : PySem.W.Frag} {mg : Str → Option Value} {base : Heap} {ca : Str → Option Addr} {j k : Nat} {x : Str} {np n : Nat} {ks : List Str} {f : Fn} (c : CalK P w K mg base ca j x np n ks f) (h : j ≤ k) : CalK P w K mg base ca k x np n ks f := by
  obtain ⟨a, fd, ps, F, r⟩ := c.ex
  exact ⟨a, fd, ps, F.mono h, r⟩

def callG (np : Nat) (dx : List MV) (f : Fn) (xs : List MV) : M MV := fun s => if xs.length + dx.length = np then callF f (xs ++ dx) s else .stuck
def mCall (np : Nat) (dx : List MV) (f : Fn) (tl : M (List MV)) : M MV := mBind tl fun xs => callG np dx f xs
section
variable {Γ : Gam} {X : Cx} {c c0 : Cfg} {n n0 : Nat} {σ : St} {H : Hp} {p : List (Nat × V)} {s : Sm}
theorem RXs.app {K : PySem.W.Frag} {ys : List MV} {ws : List V} {g : List Addr} (q : RXs K c n σ ys ws g) : ∀ {xs : List MV} {vs : List V} {f : List Addr}, RXs K c n σ xs vs f → RXs K c n σ (xs ++ ys) (vs ++ ws) (f ++ g)
  | _, _, _, .nil => q
  | _, _, _, .cons r t => by
    rw [List.append_assoc]
    exact .cons r (RXs.app q t)
theorem ROs.rxs {K : PySem.W.Frag} : ∀ {xs : List MV} {vs : List V} {f : List Addr}, ROs K c n xs vs f → RXs K c n σ xs vs f
  | _, _, _, .nil => .nil
  | _, _, _, .cons r t => .cons (.val r) (ROs.rxs t)
theorem ok_callG {np : Nat} {dx : List MV} {dvs : List V} {f : Fn} (hd : ∀ c n, ROs Γ.K c n dx dvs []) {xs : List MV} {vs : List V} {fp : List Addr} {Q : VK} (R : Rel Γ.K c σ p s) (k : Keep c0 n0 c s.h.length) (r : RXs Γ.K c s.h.length σ xs vs fp) (t : Tmp c fp) (fr : Fresh c0 fp)
    (q : PostE Γ c0 n0 σ p (callG np dx f xs s) Q) : spM Γ.K Γ.ca np f (vs ++ dvs) c.H Q fun cls d H => Γ.W cls d σ H := by
  unfold callG at q
  split at q
  · rename_i h
    have r2 := RXs.app (hd c s.h.length).rxs r
    rw [List.append_nil] at r2
    refine ok_call ?_ R k r2 t fr q
    rw [List.length_append, ← r.length, ← (hd c 0).length]
    exact h
  · exact q.elim
theorem pe_callM {kk : Nat} {x : Str} {np : Nat} {dx : List MV} {f : Fn} {e : Expr} {es : List Expr} {tl : M (List MV)} {pp pos : Pos} (hK : X.K = Γ.K) (cal : CalM X.prog X.w X.K X.mg X.base Γ.ca kk x np dx f) (hr : Room kk X.A) (hx : ∀ σ, PassesAt (L2.CX X.prog X.w) X σ (fun cls d H => Γ.W cls d σ H))
    (hg : Gl X x) (ha : PA X (e :: es) (RL Γ tl)) (hdb : (x == ("__debug__" : Str)) = false := by decide) (he : starEach (e :: es) X.env = (false, eval e X.env) :: starEach es X.env := by rfl) (hpl : (backTo pos (starEach es X.env)).any (·.1) = false := by rfl) :
    PE X (.Call (.Name x pp) (e :: es) [] pos) (RE Γ (mCall np dx f tl)) := by
  obtain ⟨a, fd, ps, dvs, ds, F, hm, hk, hb, hv, hd, _⟩ := cal.ex
  refine PE.imp (pe_callSD F hr hg hm hk hb hv hx ha hdb he hpl) fun σ H Q h => ?_
  obtain ⟨c, p, s, e, R, h⟩ := h
  refine ⟨c, p, s, e, R, ?_⟩
  unfold mCall mBind at h
  revert h
  cases tl s with
  | stuck => exact id
  | exc e s1 => exact id
  | ok xs s1 =>
    intro h c1 vs fp R1 k1 r1 t1 f1
    rw [hK]
    exact ok_callG (by rw [← hK]; exact hd) R1 k1 r1 t1 f1 h
theorem pe_call0M {kk : Nat} {x : Str} {dx : List MV} {np : Nat} {f : Fn} {pp pos : Pos} (hK : X.K = Γ.K) (cal : CalM X.prog X.w X.K X.mg X.base Γ.ca kk x np dx f) (hr : Room kk X.A) (hx : ∀ σ, PassesAt (L2.CX X.prog X.w) X σ (fun cls d H => Γ.W cls d σ H))
    (hg : Gl X x) (hdb : (x == ("__debug__" : Str)) = false := by decide) : PE X (.Call (.Name x pp) [] [] pos) (RE Γ (mCall np dx f mNil)) := by
  obtain ⟨a, fd, ps, dvs, ds, F, hm, hk, hb, hv, hd, _⟩ := cal.ex
  refine ⟨fun pins s σ H Q I h => ?_⟩
  refine wpAny_Call_Name_kw (ld_glob I hg hm ?_ hdb)
  refine PySem.W.callWith_K0 I.kIn hk (run_fnSD (us := []) (E := fun σ cls d H => Γ.W cls d σ H) F hr hb hv (hx σ) I .nil ?_)
  obtain ⟨c, p, s, rfl, R, h⟩ := h
  rw [hK]
  exact ok_callG (by rw [← hK]; exact hd) R .refl .nil Tmp.nil Fresh.nil h
/-! by keywords -/
def RK (Γ : Gam) (m : M (List MV)) : TA := RL Γ m
theorem pk_nilM : PK X [] (RL Γ mNil) := ⟨fun pos pins s σ H Q I h => pk_nil.run pos pins s σ H Q I (by
  obtain ⟨c, p, s, e, R, h⟩ := h
  have := h c [] [] R Keep.refl .nil Tmp.nil Fresh.nil
  rw [e] at this
  exact this)⟩
theorem pk_consM {e : Expr} {kws : List Keyword} {nm : Option Str} {kpos : Pos} {a : M MV} {r : M (List MV)} (ha : PE X e (RE Γ a)) (hr : PK X kws (RL Γ r)) : PK X (⟨nm, e, kpos⟩ :: kws) (RL Γ (mCons a r)) :=
  ⟨fun pos pins s σ H Q I h => (pk_cons ha hr).run pos pins s σ H Q I (by
    obtain ⟨c, p, s, e, R, h⟩ := h
    refine ⟨c, p, s, e, R, ?_⟩
    unfold mCons mBind at h
    revert h
    cases a s with
    | stuck => exact id
    | exc e s1 => exact id
    | ok x s1 =>
      intro h c1 v fp R1 k1 r1 t1 f1
      refine ⟨c1, p, s1, rfl, R1, ?_⟩
      revert h
      dsimp only
      cases r s1 with
      | stuck => exact id
      | exc e s2 => exact fun h c2 C d R2 k2 x2 => h c2 C d R2 (k1.trans k2) x2
      | ok ys s2 =>
        intro h c2 us fp2 R2 k2 r2 t2 f2
        obtain ⟨t1', st⟩ := t1.stay r1.at k2
        exact h c2 (v :: us) (fp ++ fp2) R2 (k1.trans k2) (.cons (r1.keep R1.mok k2 st) r2) (t1'.app t2 (apart t1 r1.at f2)) (f1.app (f2.back k1)))⟩
/-- n positional values, m by keywords -/
def mCallK (np n m : Nat) (f : Fn) (tl tk : M (List MV)) : M MV := mBind tl fun xs => mBind tk fun ys => fun s => if xs.length = n ∧ ys.length = m then callG np [] f (xs ++ ys) s else .stuck
theorem run_fnKM {np n : Nat} {ks : List Str} {a : Addr} {fd : FuncData} {ps : List Str} {f : Fn} {kk : Nat} {pins : List (Addr × Obj)} {s : Shared} {Q : VK} {us ws : List Value} {vs zs : List V} (F : FnOk X.prog X.w X.K X.mg X.base (L2.CX X.prog X.w) kk a fd ps (spM X.K Γ.ca np f)) (hr : Room kk X.A)
    (hb : ∀ (s : Shared) (us ws : List Value), X.K.In s.heap → us.length = n → ws.length = ks.length → BindsTo s fd ⟨us, ks.zip ws⟩ (ps.zip (us ++ ws))) (hx : PassesAt (L2.CX X.prog X.w) X σ (fun cls d H => Γ.W cls d σ H))
    (I : Inv X pins σ H s) (r : Vals vs us) (rz : Vals zs ws) (h1 : vs.length = n) (h2 : zs.length = ks.length) (h : spM X.K Γ.ca np f (vs ++ zs) H Q fun cls d H => Γ.W cls d σ H) : wpAny (model X.prog X.w) X.A (call (.ref a) us (ks.zip ws)) (EP X pins σ Q) X.xe s := by
  refine wpAny_call (codeAny_mono (F.run X.A X.stack s H ⟨us, ks.zip ws⟩ (us ++ ws) (vs ++ zs) Q (fun cls d H => Γ.W cls d σ H) hr I.env0 (hb s us ws I.kIn (r.length.symm.trans h1) (rz.length.symm.trans h2)) (r.append rz) h) fun r s' hq => ?_)
  cases r with
  | error e => exact hx pins H s e s' I hq
  | ok fl =>
    cases fl with
    | ret u => exact I.after hq
    | next => exact False.elim hq
    | brk => exact False.elim hq
    | cont => exact False.elim hq
theorem RL_K {np n m : Nat} {f : Fn} {tl tk : M (List MV)} {Q : VK} (h : RE Γ (mCallK np n m f tl tk) σ H Q) : RL Γ tl σ H fun vs H1 => RL Γ tk σ H1 fun zs H2 => vs.length = n ∧ zs.length = m ∧ spM Γ.K Γ.ca np f (vs ++ zs) H2 Q fun cls d H => Γ.W cls d σ H := by
  obtain ⟨c, p, s, e, R, h⟩ := h
  refine ⟨c, p, s, e, R, ?_⟩
  unfold mCallK mBind at h
  revert h
  cases tl s with
  | stuck => exact id
  | exc e s1 => exact id
  | ok xs s1 =>
    intro h c1 vs fp R1 k1 r1 t1 f1
    refine ⟨c1, p, s1, rfl, R1, ?_⟩
    revert h
    dsimp only
    cases tk s1 with
    | stuck => exact id
    | exc e s2 => exact fun h c2 C d R2 k2 x2 => h c2 C d R2 (k1.trans k2) x2
    | ok ys s2 =>
      intro h c2 us fp2 R2 k2 r2 t2 f2
      obtain ⟨t1', st⟩ := t1.stay r1.at k2
      dsimp only at h
      split at h
      · rename_i hl
        have r12 := RXs.app r2 (r1.keep R1.mok k2 st)
        refine ⟨by rw [← r1.length]; exact hl.1, by rw [← r2.length]; exact hl.2, ?_⟩
        have := ok_callG (dvs := []) (fun _ _ => ROs.nil) R2 (k1.trans k2) r12 (t1'.app t2 (apart t1 r1.at f2)) (f1.app (f2.back k1)) h
        rwa [List.append_nil] at this
      · exact h.elim
theorem pe_callKM {kk : Nat} {x : Str} {np n : Nat} {ks : List Str} {f : Fn} {e : Expr} {es : List Expr} {kws : List Keyword} {tl tk : M (List MV)} {pp pos : Pos} (hK : X.K = Γ.K) (cal : CalK X.prog X.w X.K X.mg X.base Γ.ca kk x np n ks f) (hr : Room kk X.A) (hx : ∀ σ, PassesAt (L2.CX X.prog X.w) X σ (fun cls d H => Γ.W cls d σ H))
    (hg : Gl X x) (ha : PA X (e :: es) (RL Γ tl)) (hkw : PK X kws (RL Γ tk)) (hall : (backToKw pos (keywordEach kws X.env)).all (·.1.isSome) = true := by rfl) (hks : (backToKw pos (keywordEach kws X.env)).filterMap (·.1) = ks := by rfl)
    (hdb : (x == ("__debug__" : Str)) = false := by decide) (he : starEach (e :: es) X.env = (false, eval e X.env) :: starEach es X.env := by rfl)
    (hpl : ((backTo pos (starEach (e :: es) X.env)).any (·.1) || (backToKw pos (keywordEach kws X.env)).any (·.1.isNone)) = false := by rfl) :
    PE X (.Call (.Name x pp) (e :: es) kws pos) (RE Γ (mCallK np n ks.length f tl tk)) := by
  obtain ⟨a, fd, ps, F, hm, hk, hb⟩ := cal.ex
  refine ⟨fun pins s σ H Q I h => ?_⟩
  refine wpAny_Call_Name_kw (ld_glob I hg hm ?_ hdb)
  refine PySem.W.callWith_KW (h₀ := X.base) I.ok.mod.kin hk hall (thn (ha.run pos pins s σ H _ I (RL_K h)) fun us s1 ⟨vs, H1, I1, r, q⟩ => ?_) hpl he
  refine thn (hkw.run pos pins s1 σ H1 _ I1 q) fun ws s2 ⟨zs, H2, I2, rz, q1, q2, q3⟩ => ⟨I2.kIn, ?_⟩
  rw [hks]
  exact run_fnKM (Γ := Γ) F hr hb (hx σ) I2 r rz q1 q2 (by rw [hK]; exact q3)
theorem pe_callK0M {kk : Nat} {x : Str} {np : Nat} {ks : List Str} {f : Fn} {kws : List Keyword} {tk : M (List MV)} {pp pos : Pos} (hK : X.K = Γ.K) (cal : CalK X.prog X.w X.K X.mg X.base Γ.ca kk x np 0 ks f) (hr : Room kk X.A) (hx : ∀ σ, PassesAt (L2.CX X.prog X.w) X σ (fun cls d H => Γ.W cls d σ H))
    (hg : Gl X x) (hkw : PK X kws (RL Γ tk)) (hall : (backToKw pos (keywordEach kws X.env)).all (·.1.isSome) = true := by rfl) (hks : (backToKw pos (keywordEach kws X.env)).filterMap (·.1) = ks := by rfl)
    (hdb : (x == ("__debug__" : Str)) = false := by decide)
    (hpl : ((backTo pos (starEach [] X.env)).any (·.1) || (backToKw pos (keywordEach kws X.env)).any (·.1.isNone)) = false := by rfl) :
    PE X (.Call (.Name x pp) [] kws pos) (RE Γ (mCallK np 0 ks.length f mNil tk)) := by
  obtain ⟨a, fd, ps, F, hm, hk, hb⟩ := cal.ex
  refine ⟨fun pins s σ H Q I h => ?_⟩
  refine wpAny_Call_Name_kw (ld_glob I hg hm ?_ hdb)
  refine PySem.W.callWith_KW0 (h₀ := X.base) I.ok.mod.kin hk hall ?_ hpl
  have h2 := RL_K h
  obtain ⟨c, p, s', e, R, h2⟩ := h2
  have h3 := h2 c [] [] R .refl .nil Tmp.nil Fresh.nil
  rw [e] at h3
  refine thn (hkw.run pos pins s σ H _ I h3) fun ws s2 ⟨zs, H2, I2, rz, q1, q2, q3⟩ => ⟨I2.kIn, ?_⟩
  rw [hks]
  exact run_fnKM (Γ := Γ) (us := []) (vs := []) F hr hb (hx σ) I2 .nil rz rfl q2 (by rw [hK]; exact q3)
end

/-! ### a def by its body -/
section
variable {P : Program} {w : World} {K : PySem.W.Frag} {mg : Str → Option Value} {base : Heap} {ca : Str → Option Addr}
theorem fn_okM {x qual : Str} {st : Stmt} {dvs : List V} {kws : List (Str × V)} {f : Addr} {fd : FuncData} {N ps : List Str} {k : Nat} {pins : List Nat} {b : MS} (F : FunD K x qual (defArgs st) (defBody st) (defScope st) dvs kws f fd) (S : FnScope N ps (defScope st))
    (hp : ∀ j ∈ pins, j < ps.length) (hN : ps.length ≤ N.length)
    (body : ∀ (cdv : Value) (A : Around) (outer : List Env) (s : Shared) (H : Hp) (E : XK), Room k (A.deeper (PyProof.Rows.envOfC qual (defScope st) s.heap.objs.size f cdv)) →
      PSs (cxOf (L2.CX P w) P w K mg base N qual (defScope st) f cdv A outer s H E) (defBody st) (RS ⟨K, fun cls d _ H => E cls d H, ca⟩ b)) :
    FnOk P w K mg base (L2.CX P w) (k + 1) f fd ps (spM K ca ps.length (mkFn N.length pins b)) := by
  refine F.ok S (fun vs H Q E h => ?_) fun cdv A outer s H vs Q E hr h => ⟨_, body cdv A outer s H E hr, ?_⟩
  · obtain ⟨_, _, _, _, _, hl, _⟩ := h
    exact hl
  · obtain ⟨c, xs, h', fp, rfl, hl, hx, R, ns, r, sl, t, q⟩ := h
    exact leave (hx.trans hl.symm) (by rw [hl]; exact hN) (fun j hj => by rw [hl]; exact hp j hj) rfl R r t q
/-- .. as callers want it -/
theorem cal_of {x : Str} {f : Addr} {fd : FuncData} {ps : List Str} {k : Nat} {np : Nat} {m : Fn} {ds : List Value} {dvs : List V} {dx : List MV} (F : FnOk P w K mg base (L2.CX P w) k f fd ps (spM K ca np m)) (hm : mg x = some (.ref f)) (hk : PySem.W.keepIn K (.ref f) = true) (hb : Binds K fd ps ds) (hv : Vals dvs ds) (hd : ∀ c n, ROs K c n dx dvs []) (hs : dx.all MV.stable = true := by rfl) :
    CalM P w K mg base ca k x np dx m := ⟨f, fd, ps, dvs, ds, F, hm, hk, hb, hv, hd, hs⟩
end
end Mir

namespace Mir
open PySem PySem.Spec L2

section
variable {Γ : Gam} {X : Cx} {c0 c : Cfg} {n0 n : Nat} {σ : St} {H : Hp} {p : List (Nat × V)} {s : Sm}
variable {a b e : Expr} {es : List Expr} {ta tb : M MV} {tl : M (List MV)} {pos : Pos}
variable {K : PySem.W.Frag}

/-! ### a value's truth -/
def truM (s : Sm) : MV → Option Bool
  | .non => some false
  | .bl b => some b
  | .int i => some (i != 0)
  | .str y => if y.length ≤ sizeLine then some ((y.length : Int) != 0) else none
  | .tup xs => some (!xs.isEmpty)
  | x => (seqL s x).map fun xs => !xs.isEmpty
theorem ROs.empty {xs : List MV} {vs : List V} {fp : List Addr} (r : ROs K c n xs vs fp) : xs.isEmpty = vs.isEmpty := by
  cases r <;> rfl
theorem truM_ok {x : MV} {v : V} {fp : List Addr} {k : Bool} (R : Rel K c σ p s) (r : RX K c s.h.length σ x v fp) (e : truM s x = some k) : TruV K v c.H k := by
  unfold truM at e
  split at e
  · obtain ⟨rfl, _⟩ := r.non
    cases e
    rfl
  · obtain ⟨rfl, _⟩ := r.bl
    cases e
    rfl
  · obtain ⟨rfl, _⟩ := r.int
    cases e
    rfl
  · obtain ⟨rfl, _⟩ := r.str
    split at e
    · rename_i h
      cases e
      exact ⟨h, rfl⟩
    · cases e
  · obtain ⟨a, vs, rfl, h1, h2, _⟩ := seqT_ok r rfl
    cases e
    exact .inr (.inl ⟨vs, h1, by rw [h2.empty]⟩)
  · obtain ⟨xs, e0, rfl⟩ := Option.map_eq_some_iff.mp e
    obtain ⟨a, vs, rfl, h1, h2⟩ := seqL_ok R r e0
    exact .inl ⟨vs, h1, by rw [h2.empty]⟩
def mTru (m : M MV) : M Bool := mBind m fun x s => match truM s x with
  | some b => .ok b s
  | none => .stuck
theorem pt_truM {e : Expr} {m : M MV} (hK : X.K = Γ.K) (h : PE X e (RE Γ m)) (he : ∀ whole, isTrue e X.env whole = (do let v ← whole; standAt e.pos; holding [v] (truthy v)) := by intro _; rfl) : PT X e (RT Γ (mTru m)) :=
  PT.imp (pt_truth h he) fun σ H Q q => by
    obtain ⟨c, p, s, e, R, h⟩ := q
    refine ⟨c, p, s, e, R, ?_⟩
    unfold mTru mBind at h
    revert h
    cases m s with
    | stuck => exact id
    | exc e s1 => exact id
    | ok x s1 =>
      intro h c1 v fp R1 k1 r1 t1 f1
      dsimp only at h
      split at h
      · rename_i b e0
        exact ⟨b, by rw [hK]; exact truM_ok R1 r1 e0, h c1 R1 k1⟩
      · exact h.elim

/-! ### isinstance by a built-in type -/
def tyS (s : Sm) : MV → Option String
  | .non => some "NoneType"
  | .bl _ => some "bool"
  | .int _ => some "int"
  | .str _ => some "str"
  | .tup _ => some "tuple"
  | x => (seqL s x).map fun _ => "list"
theorem tyx_T {a : Addr} {vs : List V} (h : SqT K H a vs) : TyX K H (.ref a) (.type "tuple") := by
  rcases h with (h | ⟨o, h⟩) | ⟨o, its, n, h, hc, _⟩
  · exact .base (.tup h)
  · exact .fTuple h
  · exact .kTuple h hc
theorem tyx_L {a : Addr} {vs : List V} (h : SqL K H a vs) : TyX K H (.ref a) (.type "list") := by
  rcases h with (h | ⟨o, h⟩) | ⟨o, its, n, h, hc, _⟩
  · exact .base (.lst h)
  · exact .base (.frz h)
  · exact .kList h hc
theorem tyS_ok {x : MV} {v : V} {fp : List Addr} {T : String} (R : Rel K c σ p s) (r : RX K c s.h.length σ x v fp) (e : tyS s x = some T) : TyX K c.H v (.type T) := by
  unfold tyS at e
  split at e
  · obtain ⟨rfl, _⟩ := r.non
    cases e
    exact .base .non
  · obtain ⟨rfl, _⟩ := r.bl
    cases e
    exact .base (.bl _)
  · obtain ⟨rfl, _⟩ := r.int
    cases e
    exact .base (.int _)
  · obtain ⟨rfl, _⟩ := r.str
    cases e
    exact .base (.str _)
  · obtain ⟨a, vs, rfl, h1, h2, _⟩ := seqT_ok r rfl
    cases e
    exact tyx_T h1
  · obtain ⟨xs, e0, rfl⟩ := Option.map_eq_some_iff.mp e
    obtain ⟨a, vs, rfl, h1, h2⟩ := seqL_ok R r e0
    exact tyx_L h1
/-- the answers among these types -/
def isiS (T n : String) : Option Bool :=
  if T = n then some true
  else if n = "int" ∨ n = "bool" ∨ n = "str" ∨ n = "tuple" ∨ n = "list" ∨ n = "dict" ∨ n = "set" then some (decide (T = "bool" ∧ n = "int")) else none
def tyNames : List String := ["NoneType", "bool", "int", "str", "tuple", "list"]
theorem isi_all : (tyNames.all fun T => ["int", "bool", "str", "tuple", "list", "dict", "set"].all fun n => kitB T n == isiS T n) = true := by decide +kernel
theorem tyS_mem {x : MV} {T : String} (e : tyS s x = some T) : T ∈ tyNames := by
  unfold tyS at e
  split at e
  · cases e; decide
  · cases e; decide
  · cases e; decide
  · cases e; decide
  · cases e; decide
  · obtain ⟨xs, e0, rfl⟩ := Option.map_eq_some_iff.mp e
    decide
theorem isiS_ok {T n : String} {b : Bool} (hT : T ∈ tyNames) (e : isiS T n = some b) : PySem.W.kitOne K (.type T) (.type n) = some b := by
  by_cases hn : n = "int" ∨ n = "bool" ∨ n = "str" ∨ n = "tuple" ∨ n = "list" ∨ n = "dict" ∨ n = "set"
  · refine kit_ty ?_
    have h := List.all_eq_true.mp (List.all_eq_true.mp isi_all T hT) n (by rcases hn with h | h | h | h | h | h | h <;> subst h <;> decide)
    rw [← e]
    exact of_decide_eq_true (by simpa using h)
  · unfold isiS at e
    split at e
    · rename_i h
      cases e
      subst h
      refine kit_ty ?_
      unfold kitB
      exact if_pos (beq_self_eq_true _)
    · cases e
def gIsi (n : String) (x : MV) : M MV := fun s => match tyS s x with
  | some T => (match isiS T n with | some b => .ok (.bl b) s | none => .stuck)
  | none => .stuck
def gIsiL (n : String) : List MV → M MV
  | [x, .ty m] => if m = n then gIsi n x else fun _ => .stuck
  | _ => fun _ => .stuck
theorem ok_isi (n : String) : Ok Γ (rIsi Γ.K) (gIsiL n) := fun c0 n0 c σ p s xs vs fp Q R k r t f q => by
  unfold gIsiL at q
  split at q
  · cases r with
    | cons r1 t1 =>
      cases t1 with
      | cons r2 t2 =>
        cases t2
        split at q
        · rename_i h
          subst h
          cases r2 with
          | val r2 =>
            cases r2
            unfold gIsi at q
            split at q
            · rename_i T e0
              split at q
              · rename_i b e1
                exact ⟨_, _, _, _, b, rfl, .ty _, tyS_ok R r1 e0, isiS_ok (tyS_mem e0) e1, q.bl R k⟩
              · exact q.elim
            · exact q.elim
        · exact q.elim
  · exact q.elim
/-- a built-in type by its name -/
theorem pe_tyNM {x : Str} {T : String} {pos : Pos} (hg : Gl X x) (hm : X.mg x = none) (hv : bootBuiltins x = some (.type T)) (hn : x ≠ "__name__" := by decide) (hd : (x == ("__debug__" : Str)) = false := by decide) : PE X (.Name x pos) (RE Γ (mC (.ty T))) :=
  PE.imp (pe_bltn (v := .ty T) hg hm hv rfl hn hd) fun _ _ _ h => RE_C (fun _ _ _ => .ty) h
theorem pe_isiM {n : String} {pp : Pos} (hK : X.K = Γ.K) (hg : Gl X "isinstance") (hm : X.mg "isinstance" = none) (ha : PA X [a, b] (RL Γ tl)) (he : starEach [a, b] X.env = (false, eval a X.env) :: starEach [b] X.env := by rfl) (hpl : (backTo pos (starEach [b] X.env)).any (·.1) = false := by rfl) :
    PE X (.Call (.Name "isinstance" pp) [a, b] [] pos) (RE Γ (mL (gIsiL n) tl)) :=
  pe_bM (r := rIsi Γ.K) (by rw [← hK]; exact call_isi) (ok_isi n) hg hm (by decide +kernel) ha (he := he) (hpl := hpl)
end
end Mir

namespace Mir
open PySem PySem.Spec L2

/-! ### list(zip(..)) of two tuples: the pairs stay in the list -/
section
variable {prog : Program} {w : World} {A : Around} {E : Value → Shared → Prop} {s : Shared}
variable {z TI TO T i1 i2 l1 l2 : Addr} {f : Bool} {u1 u2 : Nat} {xs ys : Array Value} {x y : Value}
theorem zh_item {oT : Obj} {Q : Value → Shared → Prop} (D : ZipApart z TI TO i1 i2 l1 l2) (gz : IsZipHeld s.heap z TI TO T f) (gT : s.heap.get? T = some oT) (gI : IsPair s.heap TI (.ref i1) (.ref i2))
    (g1 : s.heap.IsTupleIter i1 l1 u1) (g2 : s.heap.IsTupleIter i2 l2 u2) (p1 : s.heap.IsTuple l1 xs) (p2 : s.heap.IsTuple l2 ys) (ex : xs[u1]? = some x) (ey : ys[u2]? = some y)
    (q : ∀ hn, IsZipHeld hn z TI TO T true → hn.IsTupleIter i1 l1 (u1 + 1) → hn.IsTupleIter i2 l2 (u2 + 1) → IsPair hn s.heap.objs.size x y → hn.objs.size = s.heap.objs.size + 1 →
      (∀ c o, c ≠ z → c ≠ i1 → c ≠ i2 → s.heap.get? c = some o → hn.get? c = some o) → Q (.ref s.heap.objs.size) { s with heap := hn }) :
    wpAny (model prog w) A (Builtin.«zip.__next__» ⟨[.ref z], []⟩) (fun fin s' => ∃ v, fin = .done (.ret v) ∧ Q v s') E s := by
  show wpAny _ _ (field (.ref z) 2 >>= _) _ _ _
  refine wpAny_bind (wpAny_field gz rfl (x := .bool false) rfl ?_)
  show wpAny _ _ (field (.ref z) 3 >>= _) _ _ _
  refine wpAny_bind (wpAny_field gz rfl (x := .ref TI) rfl (wpAny_bind (wpAny_seqItems gI rfl ?_)))
  refine wpAny_bind (wpAny_tupleHeld_zip gz gT fun ha za sa => ?_)
  simp only [Bool.false_eq_true, if_false]
  refine wpAny_bind ?_
  rw [← Array.forIn_toList]
  simp only [List.forIn_cons, List.forIn_nil]
  refine wpAny_bind (wpAny_bind (wpAny_holding (show wpAny _ _ (Builtin.SmallTypes.nextOf (.ref i1) >>= _) _ _ _ from ?_)))
  refine wpAny_bind (RZ.nextOf_tuple_item (s := { s with heap := ha }) (g1.extBut sa.extBut D.i1z) (p1.extBut sa.extBut D.l1z) ex fun hb ib sb => wpAny_pure (wpAny_pure ?_))
  refine wpAny_bind (wpAny_bind (wpAny_holding (show wpAny _ _ (Builtin.SmallTypes.nextOf (.ref i2) >>= _) _ _ _ from ?_)))
  refine wpAny_bind (RZ.nextOf_tuple_item (s := { s with heap := hb }) ((g2.extBut sa.extBut D.i2z).extBut sb.extBut D.i12.symm) ((p2.extBut sa.extBut D.l2z).extBut sb.extBut D.l2i1) ey fun hc ic sc => wpAny_pure (wpAny_pure (wpAny_pure ?_)))
  refine wpAny_bind (show wpAny _ _ (newTuple [x, y]) _ _ _ from wpAny_newTuple ?_)
  have e1 : hc.objs.size = s.heap.objs.size := by rw [sc.1, sb.1, sa.1]
  have zc : IsZipHeld hc z TI TO T true := sc.extBut _ _ D.i2z.symm (sb.extBut _ _ D.i1z.symm za)
  have kc : ∀ c o, c ≠ z → c ≠ i1 → c ≠ i2 → s.heap.get? c = some o → hc.get? c = some o := fun c o n1 n2 n3 e => sc.extBut _ _ n3 (sb.extBut _ _ n2 (sa.extBut _ _ n1 e))
  have i1c : hc.IsTupleIter i1 l1 (u1 + 1) := ib.extBut sc.extBut D.i12
  refine wpAny_pure ⟨_, rfl, ?_⟩
  show Q (.ref hc.objs.size) _
  have pn : IsPair (hc.push { cls := .type "tuple", data := .seq #[x, y] }) hc.objs.size x y := Heap.get?_push_size _ rfl
  have en : (hc.push { cls := .type "tuple", data := .seq #[x, y] }).objs.size = hc.objs.size + 1 := Heap.size_push ..
  rw [e1] at pn en ⊢
  exact q _ (Heap.get?_push_of_some _ zc) (i1c.at fun o e => Heap.get?_push_of_some _ e) (ic.at fun o e => Heap.get?_push_of_some _ e) pn en fun c o n1 n2 n3 e => Heap.get?_push_of_some _ (kc c o n1 n2 n3 e)
theorem zh_end {oT : Obj} {Q : Fin → Shared → Prop} (hh : A.handled = none) (D : ZipApart z TI TO i1 i2 l1 l2) (gz : IsZipHeld s.heap z TI TO T f) (gT : s.heap.get? T = some oT) (gI : IsPair s.heap TI (.ref i1) (.ref i2))
    (g1 : s.heap.IsTupleIter i1 l1 u1) (g2 : s.heap.IsTupleIter i2 l2 u2) (p1 : s.heap.IsTuple l1 xs) (p2 : s.heap.IsTuple l2 ys) (fin : xs[u1]? = none ∨ ys[u2]? = none)
    (q : ∀ hn e, (∀ c o, c ≠ z → c ≠ i1 → c ≠ i2 → s.heap.get? c = some o → hn.get? c = some o) → (∃ o, hn.get? e = some o ∧ o.cls = .type "StopIteration") → E (.ref e) { s with heap := hn }) :
    wpAny (model prog w) A (Builtin.«zip.__next__» ⟨[.ref z], []⟩) Q E s := by
  show wpAny _ _ (field (.ref z) 2 >>= _) _ _ _
  refine wpAny_bind (wpAny_field gz rfl (x := .bool false) rfl ?_)
  show wpAny _ _ (field (.ref z) 3 >>= _) _ _ _
  refine wpAny_bind (wpAny_field gz rfl (x := .ref TI) rfl (wpAny_bind (wpAny_seqItems gI rfl ?_)))
  refine wpAny_bind (wpAny_tupleHeld_zip gz gT fun ha za sa => ?_)
  simp only [Bool.false_eq_true, if_false]
  refine wpAny_bind ?_
  rw [← Array.forIn_toList]
  simp only [List.forIn_cons, List.forIn_nil]
  refine wpAny_bind (wpAny_bind (wpAny_holding (show wpAny _ _ (Builtin.SmallTypes.nextOf (.ref i1) >>= _) _ _ _ from ?_)))
  cases ex : xs[u1]? with
  | none => exact wpAny_bind (RZ.nextOf_tuple_end (s := { s with heap := ha }) hh (g1.extBut sa.extBut D.i1z) (p1.extBut sa.extBut D.l1z) ex fun hb e sb he => q hb e (fun c o n1 n2 _ v => sb _ _ n2 (sa.extBut _ _ n1 v)) he)
  | some x =>
    have ey : ys[u2]? = none := fin.elim (fun v => by rw [ex] at v; cases v) id
    refine wpAny_bind (RZ.nextOf_tuple_item (s := { s with heap := ha }) (g1.extBut sa.extBut D.i1z) (p1.extBut sa.extBut D.l1z) ex fun hb ib sb => wpAny_pure (wpAny_pure ?_))
    refine wpAny_bind (wpAny_bind (wpAny_holding (show wpAny _ _ (Builtin.SmallTypes.nextOf (.ref i2) >>= _) _ _ _ from ?_)))
    exact wpAny_bind (RZ.nextOf_tuple_end (s := { s with heap := hb }) hh ((g2.extBut sa.extBut D.i2z).extBut sb.extBut D.i12.symm) ((p2.extBut sa.extBut D.l2z).extBut sb.extBut D.l2i1) ey fun hc e sc he => q hc e (fun c o n1 n2 n3 v => sc _ _ n3 (sb.extBut _ _ n2 (sa.extBut _ _ n1 v))) he)

/-- a zip of two tuples behind i draws; as: what it gave out -/
structure ZS (h : Heap) (z TI TO i1 i2 l1 l2 : Addr) (xs ys : Array Value) (i : Nat) (as : List Addr) : Prop where
  way : (IsZip h z TI TO .none ∧ ∃ x y, IsPair h TO x y) ∨ ∃ T f, IsZipHeld h z TI TO T f ∧ T ∈ as
  pr : IsPair h TI (.ref i1) (.ref i2)
  a1 : h.IsTupleIter i1 l1 i
  a2 : h.IsTupleIter i2 l2 i
  t1 : h.IsTuple l1 xs
  t2 : h.IsTuple l2 ys
def Zf (z TI TO i1 i2 l1 l2 S : Addr) : Prop := z < S ∧ TI < S ∧ TO < S ∧ i1 < S ∧ i2 < S ∧ l1 < S ∧ l2 < S
structure Za (h : Heap) (S : Addr) (xs ys : Array Value) (as : List Addr) : Prop where
  up : ∀ a ∈ as, S < a
  nd : as.Nodup
  at_ : ∀ (j : Nat) (a : Addr), as[j]? = some a → ∃ x y, xs[j]? = some x ∧ ys[j]? = some y ∧ IsPair h a x y
variable {i : Nat} {S : Addr} {as : List Addr}
theorem ZS.keep {h h' : Heap} (Z : ZS h z TI TO i1 i2 l1 l2 xs ys i as) (B : Zf z TI TO i1 i2 l1 l2 S) (k : ∀ b o, b ≠ S → h.get? b = some o → h'.get? b = some o) : ZS h' z TI TO i1 i2 l1 l2 xs ys i as := by
  obtain ⟨b1, b2, b3, b4, b5, b6, b7⟩ := B
  refine ⟨?_, k _ _ (Nat.ne_of_lt b2) Z.pr, Z.a1.at fun o e => k _ o (Nat.ne_of_lt b4) e, Z.a2.at fun o e => k _ o (Nat.ne_of_lt b5) e, Z.t1.at fun o e => k _ o (Nat.ne_of_lt b6) e, Z.t2.at fun o e => k _ o (Nat.ne_of_lt b7) e⟩
  rcases Z.way with ⟨h1, x, y, h2⟩ | ⟨T, f, h1, h2⟩
  · exact .inl ⟨k _ _ (Nat.ne_of_lt b1) h1, x, y, k _ _ (Nat.ne_of_lt b3) h2⟩
  · exact .inr ⟨T, f, k _ _ (Nat.ne_of_lt b1) h1, h2⟩
theorem Za.there {h : Heap} {a : Addr} (Z : Za h S xs ys as) (m : a ∈ as) : a < h.objs.size := by
  obtain ⟨j, e⟩ := List.mem_iff_getElem?.mp m
  obtain ⟨_, _, _, _, g⟩ := Z.at_ j a e
  exact Heap.lt_size g
theorem zs_next {Q : Option Value → Shared → Prop} (D : ZipApart z TI TO i1 i2 l1 l2) (B : Zf z TI TO i1 i2 l1 l2 S) (Z : ZS s.heap z TI TO i1 i2 l1 l2 xs ys i as) (Y : Za s.heap S xs ys as) (ex : xs[i]? = some x) (ey : ys[i]? = some y)
    (q : ∀ hn, ZS hn z TI TO i1 i2 l1 l2 xs ys (i + 1) (as ++ [s.heap.objs.size]) → IsPair hn s.heap.objs.size x y → hn.objs.size = s.heap.objs.size + 1 →
      (∀ c o, c ≠ z → c ≠ TO → c ≠ i1 → c ≠ i2 → s.heap.get? c = some o → hn.get? c = some o) → Q (some (.ref s.heap.objs.size)) { s with heap := hn }) :
    wpAny (model prog w) A (pyNext (.ref z)) Q E s := by
  rcases Z.way with ⟨h1, x0, y0, h2⟩ | ⟨T, f, h1, h2⟩
  · refine RZ.pyNext_zipT_item D h1 Z.pr h2 Z.a1 Z.a2 Z.t1 Z.t2 ex ey fun hn g1 g2 g3 g4 g5 g6 g7 => ?_
    exact q hn ⟨.inr ⟨_, false, g1, List.mem_append_right _ (List.mem_singleton.mpr rfl)⟩, g7 _ _ D.TIz D.TITO D.TIi1 D.TIi2 Z.pr, g3, g4, Z.t1.at fun o e => g7 _ o D.l1z D.l1TO D.l1i1 D.l1i2 e, Z.t2.at fun o e => g7 _ o D.l2z D.l2TO D.l2i1 D.l2i2 e⟩ g5 g6 g7
  · have hTy : s.TypeIs (.ref z) "zip" := ⟨_, h1, rfl⟩
    obtain ⟨j, ej⟩ := List.mem_iff_getElem?.mp h2
    obtain ⟨_, _, _, _, gT⟩ := Y.at_ j T ej
    unfold pyNext
    refine wpAny_bind (wpAny_attempt (wpAny_callSpecial?_slot (name := Str.ofString "__next__") hTy F.slot_zip_next (wpAny_call_entry F.slot_zip_next hTy F.entry_zip_next (zh_item D h1 gT Z.pr Z.a1 Z.a2 Z.t1 Z.t2 ex ey fun hn g1 g3 g4 g5 g6 g7 => wpAny_pure ?_) (F.args_zip_next_1 _))))
    exact q hn ⟨.inr ⟨T, true, g1, List.mem_append_left _ h2⟩, g7 _ _ D.TIz D.TIi1 D.TIi2 Z.pr, g3, g4, Z.t1.at fun o e => g7 _ o D.l1z D.l1i1 D.l1i2 e, Z.t2.at fun o e => g7 _ o D.l2z D.l2i1 D.l2i2 e⟩ g5 g6 fun c o c1 _ c3 c4 e => g7 c o c1 c3 c4 e
theorem zs_done {Q : Option Value → Shared → Prop} (hh : A.handled = none) (D : ZipApart z TI TO i1 i2 l1 l2) (Z : ZS s.heap z TI TO i1 i2 l1 l2 xs ys i as) (Y : Za s.heap S xs ys as) (fin : xs[i]? = none ∨ ys[i]? = none)
    (q : ∀ hn, (∀ c o, c ≠ z → c ≠ TO → c ≠ i1 → c ≠ i2 → s.heap.get? c = some o → hn.get? c = some o) → Q none { s with heap := hn }) : wpAny (model prog w) A (pyNext (.ref z)) Q E s := by
  rcases Z.way with ⟨h1, x0, y0, h2⟩ | ⟨T, f, h1, h2⟩
  · exact RZ.pyNext_zipT_end hh D h1 Z.pr h2 Z.a1 Z.a2 Z.t1 Z.t2 fin q
  · have hTy : s.TypeIs (.ref z) "zip" := ⟨_, h1, rfl⟩
    obtain ⟨j, ej⟩ := List.mem_iff_getElem?.mp h2
    obtain ⟨_, _, _, _, gT⟩ := Y.at_ j T ej
    unfold pyNext
    refine wpAny_bind (wpAny_attempt (wpAny_callSpecial?_slot (name := Str.ofString "__next__") hTy F.slot_zip_next (wpAny_call_entry F.slot_zip_next hTy F.entry_zip_next (zh_end hh D h1 gT Z.pr Z.a1 Z.a2 Z.t1 Z.t2 fin fun hn e hk he => ?_) (F.args_zip_next_1 _))))
    obtain ⟨o, ho, hc⟩ := he
    exact wpAny_bind (wpAny_isInstance (T := "StopIteration") (b := true) ⟨o, ho, hc⟩ isSubtype_stop (wpAny_pure (q _ fun c o c1 _ c3 c4 e => hk c o c1 c3 c4 e)))
end

section
variable {prog : Program} {w : World} {A : Around} {E : Value → Shared → Prop} {s : Shared} {R : Result → Shared → Prop}
variable {z TI TO i1 i2 l1 l2 S : Addr} {xs ys : Array Value} {n : Nat}
/-- an exact list -/
abbrev lsO (acc : Array Value) (c : Nat) : Obj := { cls := .type "list", dict := none, data := .seq acc c, slots := #[] }
theorem zl_loop (hh : A.handled = none) (D : ZipApart z TI TO i1 i2 l1 l2) (B : Zf z TI TO i1 i2 l1 l2 S) (hn : n = min xs.size ys.size) (hz : n ≤ sizeLine) (res : Value) {ho : Heap}
    (hR : ∀ h' tk acc c as, (∀ b o, b ≠ S → b ≠ z → b ≠ TO → b ≠ i1 → b ≠ i2 → ho.get? b = some o → h'.get? b = some o) → h'.get? S = some (lsO acc c) → as.length = n → Za h' S xs ys as → acc.toList = as.map Value.ref → R (.ok (.ret res)) { s with heap := h', toks := tk }) :
    ∀ (k i : Nat) (h : Heap) (tk c : Nat) (acc : Array Value) (as : List Addr), n - i = k → i ≤ n → ZS h z TI TO i1 i2 l1 l2 xs ys i as → Za h S xs ys as → (∀ b o, b ≠ S → b ≠ z → b ≠ TO → b ≠ i1 → b ≠ i2 → ho.get? b = some o → h.get? b = some o) →
      h.get? S = some (lsO acc c) → acc.toList = as.map Value.ref → as.length = i → codeAny (model prog w) A (.builtin "list.extend.loop" ⟨[.ref S, .ref z, res], []⟩) R { s with heap := h, toks := tk } := by
  obtain ⟨b1, b2, b3, b4, b5, b6, b7⟩ := id B
  have Sz := (Nat.ne_of_lt b1).symm
  have STO := (Nat.ne_of_lt b3).symm
  have Si1 := (Nat.ne_of_lt b4).symm
  have Si2 := (Nat.ne_of_lt b5).symm
  intro k
  induction k with
  | zero =>
    intro i h tk c acc as hk hi Z Y kp gS ea la
    refine codeAny_builtin PySem.F.entry_extend_loop ?_
    rw [Around.under_plainId PySem.F.plain_extend_loop _]
    refine wpAny_bind (show wpAny _ A.in1 (pyNext (.ref z)) _ _ _ from zs_done (s := { s with heap := h, toks := tk }) (A := A.in1) hh D Z Y ?_ fun hq kq => ?_)
    · rcases Nat.le_total xs.size ys.size with m | m
      · exact .inl (Array.getElem?_eq_none (by omega))
      · exact .inr (Array.getElem?_eq_none (by omega))
    · refine wpAny_pure (hR hq tk acc c as (fun b o n0 n1 n2 n3 n4 e => kq b o n1 n2 n3 n4 (kp b o n0 n1 n2 n3 n4 e)) (kq S _ Sz STO Si1 Si2 gS) (by omega) ⟨Y.up, Y.nd, fun j a ja => ?_⟩ ea)
      obtain ⟨x, y, e1, e2, e3⟩ := Y.at_ j a ja
      have ua := Y.up a (List.mem_of_getElem? ja)
      exact ⟨x, y, e1, e2, kq a _ (Nat.ne_of_gt (Nat.lt_trans b1 ua)) (Nat.ne_of_gt (Nat.lt_trans b3 ua)) (Nat.ne_of_gt (Nat.lt_trans b4 ua)) (Nat.ne_of_gt (Nat.lt_trans b5 ua)) e3⟩
  | succ k ih =>
    intro i h tk c acc as hk hi Z Y kp gS ea la
    have lt : i < n := by omega
    have za : acc.size = i := by rw [← Array.length_toList, ea, List.length_map, la]
    have hx : xs[i]? = some (xs[i]'(by omega)) := Array.getElem?_eq_getElem (by omega)
    have hy : ys[i]? = some (ys[i]'(by omega)) := Array.getElem?_eq_getElem (by omega)
    have Sl : S < h.objs.size := Heap.lt_size gS
    refine codeAny_builtin PySem.F.entry_extend_loop ?_
    rw [Around.under_plainId PySem.F.plain_extend_loop _]
    refine wpAny_bind (show wpAny _ A.in1 (pyNext (.ref z)) _ _ _ from zs_next (s := { s with heap := h, toks := tk }) (A := A.in1) D B Z Y hx hy fun hq Zq pq sq kq => ?_)
    dsimp only at Zq pq sq kq ⊢
    have gq := kq S _ Sz STO Si1 Si2 gS
    have up : ∀ b o, b ≠ S → hq.get? b = some o → (hq.update S (Obj.mapSeq (·.push (Value.ref h.objs.size)))).get? b = some o := fun b o nb e => (Heap.get?_update_other _ _ (Ne.symm nb)).trans e
    refine wpAny_bind (show wpAny _ A.in1 (updateSeq S (·.push (Value.ref h.objs.size))) _ _ _ from ?_)
    refine wpAny_updateSeq gq rfl (wpAny_pure ⟨plainId_quiet PySem.F.plain_extend_loop _, ih (i + 1) _ tk _ (acc.push (Value.ref h.objs.size)) (as ++ [h.objs.size]) (by omega) lt (Zq.keep B up) ⟨?_, ?_, ?_⟩
      (fun b o n0 n1 n2 n3 n4 e => up b o n0 (kq b o n1 n2 n3 n4 (kp b o n0 n1 n2 n3 n4 e))) (Heap.get?_update_self _ gq rfl) (by rw [Array.toList_push, ea, List.map_append]; rfl) (by rw [List.length_append, la]; rfl)⟩) (by rw [za]; omega) (by show (acc.push (Value.ref h.objs.size)).size ≤ sizeLine + 1; rw [Array.size_push, za]; omega)
    · intro a m
      rcases List.mem_append.mp m with m | m
      · exact Y.up a m
      · rw [List.mem_singleton.mp m]; exact Sl
    · refine List.nodup_append.mpr ⟨Y.nd, nd1, fun a m b m' => ?_⟩
      rw [List.mem_singleton.mp m']
      exact Nat.ne_of_lt (Y.there m)
    · intro j a ja
      by_cases h1 : j < as.length
      · rw [List.getElem?_append_left h1] at ja
        obtain ⟨x, y, e1, e2, e3⟩ := Y.at_ j a ja
        have ua := Y.up a (List.mem_of_getElem? ja)
        exact ⟨x, y, e1, e2, up a _ (Nat.ne_of_gt ua) (kq a _ (Nat.ne_of_gt (Nat.lt_trans b1 ua)) (Nat.ne_of_gt (Nat.lt_trans b3 ua)) (Nat.ne_of_gt (Nat.lt_trans b4 ua)) (Nat.ne_of_gt (Nat.lt_trans b5 ua)) e3)⟩
      · rw [List.getElem?_append_right (by omega)] at ja
        have j0 : j - as.length = 0 := by
          cases v : j - as.length with
          | zero => rfl
          | succ m => rw [v] at ja; cases ja
        rw [j0] at ja
        cases ja
        have : j = i := by omega
        subst this
        exact ⟨_, _, hx, hy, up _ _ (Nat.ne_of_gt Sl) pq⟩
end
end Mir

namespace Mir
open PySem PySem.Spec L2

theorem zip_len0 : typeLookup (.type "zip") "__len__" = pure none := am_miss_of_fast (by decide +kernel)
theorem zip_hint0 : typeLookup (.type "zip") "__length_hint__" = pure none := am_miss_of_fast (by decide +kernel)
section
variable {prog : Program} {w : World} {A : Around} {E : Value → Shared → Prop} {s : Shared} {R : Result → Shared → Prop}
variable {z TI TO i1 i2 l1 l2 S : Addr} {xs ys : Array Value} {n : Nat}
theorem ZS.type {i : Nat} {as : List Addr} (Z : ZS s.heap z TI TO i1 i2 l1 l2 xs ys i as) : s.TypeIs (.ref z) "zip" := by
  rcases Z.way with ⟨h, _⟩ | ⟨_, _, h, _⟩
  · exact ⟨_, h, rfl⟩
  · exact ⟨_, h, rfl⟩
/-- what of the old heap a zip keeps -/
def ZKp (ho h' : Heap) (S z TO i1 i2 : Addr) : Prop := ∀ b o, b ≠ S → b ≠ z → b ≠ TO → b ≠ i1 → b ≠ i2 → ho.get? b = some o → h'.get? b = some o
theorem zl_ext (hh : A.handled = none) (D : ZipApart z TI TO i1 i2 l1 l2) (B : Zf z TI TO i1 i2 l1 l2 S) (hn : n = min xs.size ys.size) (hz : n ≤ sizeLine) (res : Value) {c₀ : Nat} (Z : ZS s.heap z TI TO i1 i2 l1 l2 xs ys 0 []) (iz : IsZip s.heap z TI TO .none) (gS : s.heap.get? S = some (lsO #[] c₀))
    (hR : ∀ h' tk acc c as, ZKp s.heap h' S z TO i1 i2 → h'.get? S = some (lsO acc c) → as.length = n → Za h' S xs ys as → acc.toList = as.map Value.ref → R (.ok (.ret res)) { s with heap := h', toks := tk }) :
    wpAny (model prog w) A.in1 (Builtin.List.listExtendWith (.ref S) (.ref z) res)
      (fun fin s' => match fin with | .done v => R (.ok v) s' | .again c' => c'.quiet = true ∧ codeAny (model prog w) A c' R s') (fun e s' => R (.error e) s') s := by
  have ne : S ≠ z := (Nat.ne_of_lt B.1).symm
  unfold Builtin.List.listExtendWith
  refine wpAny_bind (wpAny_typeOf Z.type ?_)
  have k1 : Builtin.List.listSameRef (.ref S) (.ref z) = false := by simp [Builtin.List.listSameRef, ne]
  have k2 : (Value.type "zip" == Value.type "list") = false := by decide
  have k3 : (Value.type "zip" == Value.type "tuple") = false := by decide
  simp only [k1, k2, k3, Bool.or_false, Bool.false_eq_true, if_false]
  refine wpAny_bind (wpAny_pyIter_zip iz (wpAny_bind (wpAny_holding ?_)))
  unfold Builtin.List.listLengthHint
  refine wpAny_bind (wpAny_specialOf Z.type zip_len0 ?_)
  show wpAny _ A.in1 (specialOf (Value.ref z) (Str.ofString "__length_hint__") >>= _) _ _ _
  refine wpAny_bind (wpAny_specialOf Z.type zip_hint0 (wpAny_pure ?_))
  show wpAny _ A.in1 (rule "list.extend.makes-room" >>= fun _ => Builtin.List.listTouch (.ref S) >>= fun _ => again (.builtin "list.extend.loop" ⟨[.ref S, .ref z, res], []⟩)) _ _ _
  refine wpAny_bind (wpAny_rule (wpAny_bind ?_))
  show wpAny _ A.in1 (updateSeq S (·.push .none) >>= fun _ => updateSeq S (·.pop)) _ _ _
  refine wpAny_bind (wpAny_updateSeq gS rfl ?_)
  have gS2 := Heap.get?_update_self (Obj.mapSeq (·.push Value.none)) gS rfl
  refine wpAny_updateSeq (hz := by seq_fits) gS2 rfl ?_
  have gS3 := Heap.get?_update_self (Obj.mapSeq (·.pop)) gS2 rfl
  have off : ∀ b o, b ≠ S → s.heap.get? b = some o → ((s.heap.update S (Obj.mapSeq (·.push Value.none))).update S (Obj.mapSeq (·.pop))).get? b = some o :=
    fun b o nb e => (Heap.get?_update_other _ _ (Ne.symm nb)).trans ((Heap.get?_update_other _ _ (Ne.symm nb)).trans e)
  exact wpAny_pure ⟨plainId_quiet PySem.F.plain_extend_loop _, zl_loop (ho := s.heap) (s := s) hh D B hn hz res hR n 0 _ s.toks _ #[] [] (Nat.sub_zero _) (Nat.zero_le _) (Z.keep B off) ⟨fun _ v => (nomatch v), List.nodup_nil, fun j a v => by simp at v⟩
    (fun b o n0 _ _ _ _ e => off b o n0 e) gS3 rfl rfl⟩
theorem zl_init (hh : A.handled = none) (D : ZipApart z TI TO i1 i2 l1 l2) (B : Zf z TI TO i1 i2 l1 l2 S) (hn : n = min xs.size ys.size) (hz : n ≤ sizeLine) (Z : ZS s.heap z TI TO i1 i2 l1 l2 xs ys 0 []) (iz : IsZip s.heap z TI TO .none) (gS : s.heap.get? S = some (lsO #[] 0))
    (hR : ∀ h' tk acc c as, ZKp s.heap h' S z TO i1 i2 → h'.get? S = some (lsO acc c) → as.length = n → Za h' S xs ys as → acc.toList = as.map Value.ref → R (.ok (.ret .none)) { s with heap := h', toks := tk }) :
    wpAny (model prog w) A.in1 (Builtin.«list.__init__» ⟨[.ref S, .ref z], []⟩)
      (fun fin s' => match fin with | .done v => R (.ok v) s' | .again c' => c'.quiet = true ∧ codeAny (model prog w) A c' R s') (fun e s' => R (.error e) s') s := by
  show wpAny _ A.in1 (do let was ← Builtin.List.listItems (.ref S); Builtin.List.listUpdate (.ref S) (fun _ => #[]); letGo was.toList.reverse; Builtin.List.listExtendWith (.ref S) (.ref z) .none) _ _ s
  refine wpAny_bind ?_
  unfold Builtin.List.listItems
  refine wpAny_bind (wpAny_seqItems gS rfl (wpAny_pure ?_))
  refine wpAny_bind (show wpAny _ A.in1 (updateSeq S (fun _ => #[])) _ _ _ from wpAny_updateSeq gS rfl (wpAny_bind (wpAny_letGo ?_)))
  have gS2 := Heap.get?_update_self (Obj.mapSeq (fun _ => (#[] : Array Value))) gS rfl
  have off : ∀ b o, b ≠ S → s.heap.get? b = some o → (s.heap.update S (Obj.mapSeq (fun _ => (#[] : Array Value)))).get? b = some o := fun b o nb e => (Heap.get?_update_other _ _ (Ne.symm nb)).trans e
  exact zl_ext (s := { s with heap := s.heap.update S (Obj.mapSeq (fun _ => (#[] : Array Value))) }) hh D B hn hz .none (Z.keep B off) (off _ _ (Nat.ne_of_lt B.1) iz) gS2 fun h' tk acc c as k => hR h' tk acc c as fun b o n0 n1 n2 n3 n4 e => k b o n0 n1 n2 n3 n4 (off b o n0 e)
theorem zl_call {Q : Value → Shared → Prop} (hh : A.handled = none) (D : ZipApart z TI TO i1 i2 l1 l2) (B : Zf z TI TO i1 i2 l1 l2 s.heap.objs.size) (hn : n = min xs.size ys.size) (hz : n ≤ sizeLine) (Z : ZS s.heap z TI TO i1 i2 l1 l2 xs ys 0 []) (iz : IsZip s.heap z TI TO .none)
    (hQ : ∀ h' tk acc c as, (∀ b o, b ≠ z → b ≠ TO → b ≠ i1 → b ≠ i2 → s.heap.get? b = some o → h'.get? b = some o) → h'.get? s.heap.objs.size = some (lsO acc c) → as.length = n → Za h' s.heap.objs.size xs ys as → acc.toList = as.map Value.ref → Q (.ref s.heap.objs.size) { s with heap := h', toks := tk }) :
    wpAny (model prog w) A (call (.type "list") [.ref z]) Q E s := by
  refine callType_codes (Q₁ := fun obj s₁ => obj = .ref s.heap.objs.size ∧ s₁ = { s with heap := s.heap.push (lsO #[] 0) }) PySem.F.called_list (PySem.F.typeCall_list_1 _) PySem.F.entry_list_init (code_list_new _ ⟨rfl, rfl⟩) fun obj s₁ h₁ => ?_
  obtain ⟨rfl, rfl⟩ := h₁
  have gS : (s.heap.push (lsO #[] 0)).get? s.heap.objs.size = some (lsO #[] 0) := Heap.get?_push_size _ rfl
  refine ⟨⟨_, gS, rfl⟩, PySem.F.args_list_init_2 _ _, zl_init (A := A.in1) hh D B hn hz (Z.keep B fun b o _ e => Heap.get?_push_of_some _ e) (Heap.get?_push_of_some _ iz) gS fun h' tk acc c as k g1 g2 g3 g4 => ?_⟩
  exact ⟨rfl, hQ h' tk acc c as (fun b o n1 n2 n3 n4 e => k b o (Nat.ne_of_lt (Heap.lt_size e)) n1 n2 n3 n4 (Heap.get?_push_of_some _ e)) g1 g2 g3 g4⟩
end

/-! ### many things laid at once -/
theorem Inv.many {X : Cx} {pins : List (Addr × Obj)} {σ : St} {H H' : Hp} {s : Shared} {h' : Heap} {tk : Nat} (I : Inv X pins σ H s) (k : ∀ b o, s.heap.get? b = some o → h'.get? b = some o) (up : ∀ b u, H b = some u → H' b = some u)
    (new : ∀ b u, H' b = some u → H b = some u ∨ (s.heap.objs.size ≤ b ∧ ObjOk X.prog X.w H' h' b u)) : Inv X pins σ H' { s with heap := h', toks := tk } := by
  refine I.un ⟨fun b o q _ _ _ => k b o q, fun b o q _ _ _ => ⟨o.slots, k b o q⟩, fun b o q n _ => ?_, fun b o q _ => ⟨o, k b o q⟩, fun b xs q => up b _ q, fun b o u q => up b _ q, fun b ps q => ⟨#[], by rw [up b _ q]; simp⟩⟩ fun b u q => ?_
  · cases e : H' b with
    | none => rfl
    | some u =>
      rcases new b u e with h | h
      · rw [n] at h; cases h
      · exact absurd (Heap.lt_size q) (Nat.not_lt.mpr h.1)
  · rcases new b u q with h | h
    · exact (I.hok b u h).stay (fun d v _ y => k d v y) (fun d y => up d _ y) fun d xs y => up d _ y
    · exact h.2
def pairAt : List Addr → List (V × V) → Addr → Option HO
  | a :: as, p :: ps, b => if b = a then some (.tup [p.1, p.2]) else pairAt as ps b
  | _, _, _ => none
theorem pairAt_none {b : Addr} : ∀ {as : List Addr} {ps : List (V × V)}, b ∉ as → pairAt as ps b = none
  | [], _, _ => by unfold pairAt; rfl
  | _ :: _, [], _ => rfl
  | a :: as, p :: ps, h => by
    unfold pairAt
    rw [if_neg fun z => h (by rw [z]; exact List.mem_cons_self)]
    exact pairAt_none fun z => h (List.mem_cons_of_mem _ z)
theorem pairAt_get : ∀ {as : List Addr} {ps : List (V × V)} {j : Nat} {a : Addr} {p : V × V}, as.Nodup → as[j]? = some a → ps[j]? = some p → pairAt as ps a = some (.tup [p.1, p.2])
  | [], _, _, _, _, _, h, _ => by simp at h
  | _ :: _, [], _, _, _, _, _, h => by simp at h
  | x :: as, y :: ps, 0, a, p, _, h1, h2 => by
    cases h1
    cases h2
    unfold pairAt
    rw [if_pos rfl]
  | x :: as, y :: ps, j + 1, a, p, nd, h1, h2 => by
    have nd' := List.nodup_cons.mp nd
    unfold pairAt
    rw [if_neg fun z => nd'.1 (by rw [← z]; exact List.mem_of_getElem? h1)]
    exact pairAt_get nd'.2 h1 h2
theorem pairAt_inv : ∀ {as : List Addr} {ps : List (V × V)} {b : Addr} {u : HO}, pairAt as ps b = some u → ∃ (j : Nat) (p : V × V), as[j]? = some b ∧ ps[j]? = some p ∧ u = .tup [p.1, p.2]
  | [], _, _, _, h => by unfold pairAt at h; cases h
  | _ :: _, [], _, _, h => by cases h
  | x :: as, y :: ps, b, u, h => by
    unfold pairAt at h
    split at h
    · rename_i e
      subst e
      cases h
      exact ⟨0, y, rfl, rfl, rfl⟩
    · obtain ⟨j, p, e1, e2, e3⟩ := pairAt_inv h
      exact ⟨j + 1, p, e1, e2, e3⟩
/-- the heap with a list at S of pairs at as -/
def zipH (H : Hp) (S : Addr) (as : List Addr) (ps : List (V × V)) : Hp := fun b => if b = S then some (.lst (as.map V.ref)) else match pairAt as ps b with
  | some u => some u
  | none => H b
/-- list(zip(a, b)), a, b tuples -/
def rLZ (K : PySem.W.Frag) : List V → Hp → VK → Prop := fun vs H Q => ∃ (a b : Addr) (xs ys : List V), vs = [.ref a, .ref b] ∧ SqT K H a xs ∧ SqT K H b ys ∧
  ∀ (S : Addr) (as : List Addr), H S = none → (∀ t ∈ as, H t = none) → S ∉ as → as.Nodup → as.length = (xs.zip ys).length → Q (.ref S) (zipH H S as (xs.zip ys))
def tLZ (K : PySem.W.Frag) (ta : TA) : TE := fun σ H Q => ta σ H fun vs H1 => rLZ K vs H1 Q
theorem pe_listZip {X : Cx} {e e2 : Expr} {ta : TA} {p p2 pos pos2 : Pos} (hc : X.calm = true) (hg : Gl X "zip") (hm : X.mg "zip" = none) (hgl : Gl X "list") (hml : X.mg "list" = none) (ha : PA X [e, e2] ta)
    (hs : starEach [e, e2] X.env = (false, eval e X.env) :: starEach [e2] X.env := by rfl) (hpl : (backTo pos (starEach [e2] X.env)).any (·.1) = false := by rfl)
    (na : starEach [.Call (.Name "zip" p) [e, e2] [] pos] X.env = (false, eval (.Call (.Name "zip" p) [e, e2] [] pos) X.env) :: starEach [] X.env := by rfl) :
    PE X (.Call (.Name "list" p2) [.Call (.Name "zip" p) [e, e2] [] pos] [] pos2) (tLZ X.K ta) := by
  refine ⟨fun pins s σ H Q I h => ?_⟩
  refine PyProof.Rows.Call_ (ld_blt I hgl hml PyProof.Rows.boot_list (PyProof.Rows.callWith_type1 (PyProof.Rows.args_cons ?_ na) na))
  refine PyProof.Rows.Call_ (ld_blt I hg hm PyProof.Rows.boot_zip (PyProof.Rows.callWith_type1 (thn (ha.run pos pins s σ H _ I h) fun us s1 ⟨vs, H1, I1, r1, a, b, xs, ys, ex, hx, hy, q⟩ => ?_) hs hpl))
  subst ex
  cases r1 with
  | cons r r1 =>
    cases r1 with
    | cons r' r1 =>
      cases r1
      cases r
      cases r'
      obtain ⟨ix, rx, tx, zx⟩ := I1.tuple hx
      obtain ⟨iy, ry, ty, zy⟩ := I1.tuple hy
      have lx := rx.length
      have ly := ry.length
      obtain ⟨o1, ho1, _⟩ := id tx
      obtain ⟨o2, ho2, _⟩ := id ty
      have la := Heap.lt_size ho1
      have lb := Heap.lt_size ho2
      refine RZ.call_zipT (show s1.heap.IsTuple a ix.toArray from tx) (show s1.heap.IsTuple b iy.toArray from ty) fun h' gz gI gO g1 g2 gs gk => PyProof.Rows.args_nil ?_
      have D := PySem.W.ktu_apart s1.heap.objs.size a b la lb
      have I2 : Inv X pins σ H1 { s1 with heap := h' } := I1.kept (t' := s1.toks) gk
      refine zl_call (s := { s1 with heap := h' }) (xs := ix.toArray) (ys := iy.toArray) (n := min ix.length iy.length) (I1.ok.hd hc) D (by show Zf _ _ _ _ _ _ _ h'.objs.size; rw [gs]; exact ⟨Nat.lt_succ_self _, by unfold Addr; omega, by unfold Addr; omega, by unfold Addr; omega, by unfold Addr; omega, Nat.lt_of_lt_of_le la (Nat.le_add_right _ 5), Nat.lt_of_lt_of_le lb (Nat.le_add_right _ 5)⟩) (by rw [List.size_toArray, List.size_toArray]) (by omega) ⟨.inl ⟨gz, _, _, gO⟩, gI, g1, g2, ?_, ?_⟩ gz fun hn tk acc c as kn gS lz Y ea => ?_
      · exact ⟨o1, gk _ _ ho1, by assumption⟩
      · exact ⟨o2, gk _ _ ho2, by assumption⟩
      dsimp only at kn gS Y ⊢
      have lzip : (xs.zip ys).length = min ix.length iy.length := by rw [List.length_zip, lx, ly]
      have fr : ∀ t, s1.heap.objs.size ≤ t → H1 t = none := fun t ht => I1.hok.fresh ht
      have sS : s1.heap.objs.size ≤ h'.objs.size := by rw [gs]; omega
      have up : ∀ t ∈ as, s1.heap.objs.size ≤ t := fun t m => Nat.le_trans sS (Nat.le_of_lt (Y.up t m))
      have nS : h'.objs.size ∉ as := fun m => Nat.lt_irrefl _ (Y.up _ m)
      refine ⟨.ref h'.objs.size, zipH H1 h'.objs.size as (xs.zip ys), ?_, rfl, q _ as (fr _ sS) (fun t m => fr t (up t m)) nS Y.nd (by rw [lz, lzip])⟩
      have I3 := Inv.many (H' := zipH H1 h'.objs.size as (xs.zip ys)) (h' := hn) (tk := tk) I1 (fun d o e => ?_) (fun d u e => ?_) fun d u e => ?_
      · exact I3
      · have l := Heap.lt_size e
        exact kn d o (Nat.ne_of_lt (Nat.lt_of_lt_of_le l (Nat.le_add_right _ 4))) (Nat.ne_of_lt (Nat.lt_of_lt_of_le l (Nat.le_add_right _ 3))) (Nat.ne_of_lt l) (Nat.ne_of_lt (Nat.lt_of_lt_of_le l (Nat.le_add_right _ 1))) (gk d o e)
      · have l : d < s1.heap.objs.size := by
          rcases Nat.lt_or_ge d s1.heap.objs.size with l | l
          · exact l
          · rw [fr d l] at e; cases e
        unfold zipH
        rw [if_neg (Nat.ne_of_lt (Nat.lt_of_lt_of_le l sS)), pairAt_none fun m => absurd l (Nat.not_lt.mpr (up d m))]
        exact e
      · unfold zipH at e
        split at e
        · rename_i hd
          subst hd
          cases e
          refine .inr ⟨sS, by rw [List.length_map, lz]; omega, acc.toList, c, ?_, ?_⟩
          · rw [ea]
            exact LiI.vals_refs as
          · rw [Array.toArray_toList]
            exact gS
        · split at e
          · rename_i u' e'
            cases e
            obtain ⟨j, pq, e1, e2, rfl⟩ := pairAt_inv e'
            refine .inr ⟨up d (List.mem_of_getElem? e1), by show 2 ≤ sizeLine; decide, ?_⟩
            obtain ⟨x, y, k1, k2, k3⟩ := Y.at_ j d e1
            obtain ⟨v1, v2⟩ := pq
            have w1 : xs[j]? = some v1 ∧ ys[j]? = some v2 := by
              have := List.getElem?_zip_eq_some.mp e2
              exact this
            obtain ⟨u1, m1, r1⟩ := rx.get w1.1
            obtain ⟨u2, m2, r2⟩ := ry.get w1.2
            have n1 : ix[j]? = some x := by simpa using k1
            have n2 : iy[j]? = some y := by simpa using k2
            rw [n1] at m1
            rw [n2] at m2
            cases m1
            cases m2
            exact ⟨[x, y], .cons r1 (.cons r2 .nil), ⟨_, k3, rfl, _, rfl⟩⟩
          · exact .inl e

/-! the mirror's -/
section
variable {Γ : Gam} {X : Cx} {c0 c : Cfg} {n0 n : Nat} {σ : St} {H : Hp} {p : List (Nat × V)} {s : Sm}
variable {tl : M (List MV)}
def zipP : List MV → List MV → List MV
  | x :: xs, y :: ys => .tup [x, y] :: zipP xs ys
  | _, _ => []
def gLZ : MV → MV → M MV := fun x y s => match x, y with
  | .tup xs, .tup ys => .ok (.lst (zipP xs ys)) s
  | _, _ => .stuck
def Cfg.withH (c : Cfg) (H : Hp) : Cfg := ⟨c.ι, c.own, H⟩
theorem zipP_ok {K : PySem.W.Frag} {c : Cfg} {n : Nat} : ∀ {xs ys : List MV} {vs ws : List V} {as : List Addr}, ROs K c n xs vs [] → ROs K c n ys ws [] → as.length = (vs.zip ws).length → (∀ (j : Nat) (a : Addr) (q : V × V), as[j]? = some a → (vs.zip ws)[j]? = some q → c.H a = some (.tup [q.1, q.2])) → ROs K c n (zipP xs ys) (as.map V.ref) [] := by
  intro xs
  induction xs with
  | nil =>
    intro ys vs ws as r1 r2 l _
    cases r1
    cases as with
    | nil => unfold zipP; exact .nil
    | cons _ _ => simp at l
  | cons x xs ih =>
    intro ys vs ws as r1 r2 l h
    obtain ⟨v, vs', rfl, h1, h2⟩ : ∃ v vs', vs = v :: vs' ∧ RO K c n x v [] ∧ ROs K c n xs vs' [] := by
      generalize ef : ([] : List Addr) = f0 at r1
      cases r1 with
      | cons ra rb =>
        obtain ⟨e1, e2⟩ := List.append_eq_nil_iff.mp ef.symm
        subst e1 e2
        exact ⟨_, _, rfl, ra, rb⟩
    cases ys with
    | nil =>
      cases r2
      cases as with
      | nil => unfold zipP; exact .nil
      | cons _ _ => simp at l
    | cons y ys =>
      obtain ⟨u, us', rfl, h3, h4⟩ : ∃ v vs', ws = v :: vs' ∧ RO K c n y v [] ∧ ROs K c n ys vs' [] := by
        generalize ef : ([] : List Addr) = f0 at r2
        cases r2 with
        | cons ra rb =>
          obtain ⟨e1, e2⟩ := List.append_eq_nil_iff.mp ef.symm
          subst e1 e2
          exact ⟨_, _, rfl, ra, rb⟩
      cases as with
      | nil => simp at l
      | cons a as =>
        unfold zipP
        refine .cons0 (.tup (SqT.of (h 0 a (v, u) rfl rfl)) (.cons0 h1 (.cons0 h3 .nil))) (ih h2 h4 (by simpa using l) fun j b q e1 e2 => h (j + 1) b q e1 e2)
theorem Rel.withH {H' : Hp} (R : Rel Γ.K c σ p s) (up : ∀ b u, c.H b = some u → H' b = some u) : Rel Γ.K (c.withH H') σ p s ∧ Keep c s.h.length (c.withH H') s.h.length := by
  have pt : Part c s.h.length (c.withH H') s.h.length [] := ⟨Nat.le_refl _, fun _ _ => rfl, fun a o _ e => up a o e, fun _ _ _ _ => rfl⟩
  refine ⟨R.step pt (fun _ z => nomatch z) rfl R.pinv R.len (fun i mv e => .inl ⟨e, rfl, fun _ z => nomatch z⟩) (fun j o e => .inl ⟨e, rfl, fun z => nomatch z⟩) fun a t e => ?_, pt.keep fun _ z => nomatch z⟩
  have m := R.mok a t e
  cases h : c.H a with
  | none => rw [h] at m; exact m.elim
  | some o =>
    show Mut (H' a)
    rw [up a o h, ← h]
    exact m
theorem ok_LZ : Ok2 Γ (fun v u H Q => rLZ Γ.K [v, u] H Q) gLZ := fun c0 n0 c σ p s x y v u f1 f2 Q R k rx ry t f q => by
  unfold gLZ at q
  split at q
  · obtain ⟨a, vs, rfl, h1, h2, rfl⟩ := seqT_ok rx rfl
    obtain ⟨b, ws, rfl, h3, h4, rfl⟩ := seqT_ok ry rfl
    refine ⟨a, b, vs, ws, rfl, h1, h3, fun S as hS has nS nd la => ?_⟩
    have up : ∀ b u, c.H b = some u → zipH c.H S as (vs.zip ws) b = some u := fun b u e => by
      unfold zipH
      have e1 : b ≠ S := fun z => by rw [z, hS] at e; cases e
      have e2 : b ∉ as := fun z => by rw [has b z] at e; cases e
      rw [if_neg e1, pairAt_none e2]
      exact e
    obtain ⟨R1, k1⟩ := R.withH up
    refine q (c.withH (zipH c.H S as (vs.zip ws))) (.ref S) [S] R1 (k.trans k1) (.val (.lst (vs := as.map V.ref) ?_ (zipP_ok (h2.keep R.mok k1 fun _ z => nomatch z) (h4.keep R.mok k1 fun _ z => nomatch z) la fun j a q e1 e2 => ?_))) ⟨nd1, fun a z => ?_⟩ (Fresh.back0 k fun a z => ?_)
    · show zipH c.H S as (vs.zip ws) S = _
      unfold zipH
      rw [if_pos rfl]
    · show zipH c.H S as (vs.zip ws) a = _
      unfold zipH
      rw [if_neg fun z => nS (by rw [← z]; exact List.mem_of_getElem? e1), pairAt_get nd e1 e2]
    · rw [List.mem_singleton.mp z]
      exact R.mok.un hS
    · rw [List.mem_singleton.mp z]
      exact hS
  · exact q.elim
theorem pe_listZipM {e e2 : Expr} {pp p2 pos pos2 : Pos} (hK : X.K = Γ.K) (hc : X.calm = true) (hg : Gl X "zip") (hm : X.mg "zip" = none) (hgl : Gl X "list") (hml : X.mg "list" = none) (ha : PA X [e, e2] (RL Γ tl))
    (hs : starEach [e, e2] X.env = (false, eval e X.env) :: starEach [e2] X.env := by rfl) (hpl : (backTo pos (starEach [e2] X.env)).any (·.1) = false := by rfl)
    (na : starEach [.Call (.Name "zip" pp) [e, e2] [] pos] X.env = (false, eval (.Call (.Name "zip" pp) [e, e2] [] pos) X.env) :: starEach [] X.env := by rfl) :
    PE X (.Call (.Name "list" p2) [.Call (.Name "zip" pp) [e, e2] [] pos] [] pos2) (RE Γ (mL (onL2 gLZ) tl)) :=
  PE.imp (pe_listZip hc hg hm hgl hml ha hs hpl na) fun σ H Q h => by
    rw [hK]
    exact RE_L (okL2 ok_LZ) h
end
end Mir

set_option maxHeartbeats 4000000
namespace Mir
open PySem PySem.Spec L2

/-! ### a tuple times a number -/
theorem tm_same (l : Addr) (items : Array Value) (n : Nat) (dd : Option Addr) (sl : Array (Option Value)) (k : Int) (u : Tok) (b0 : (decide (k < -(2 ^ 63)) || decide (k ≥ 2 ^ 63)) = false) (b1 : (items.isEmpty || k == 1) = true) :
    Meets (Builtin.«tuple.__mul__» ⟨[.ref l, .int k u], []⟩) (fun _ R s => s.heap.get? l = some { cls := .type "tuple", dict := dd, data := .seq items n, slots := sl } ∧ R (.ok (.ret (Value.ref l))) s) :=
  .of_wp fun prog w A R s h => by
    obtain ⟨hp, g, d, tk, os⟩ := s
    obtain ⟨hl, h⟩ := h
    have gi := AutoSeq1.idx_int
    have gT : (⟨hp, g, d, tk, os⟩ : Shared).TypeIs (.ref l) "tuple" := ⟨_, hl, rfl⟩
    wp_walk using wpAny_loadPart' hl
    repeat (first
      | (refine wpAny_ite_false (decide_eq_false (by rw [b0]; exact Bool.false_ne_true)) ?_; wp_walk using wpAny_loadPart' hl)
      | (refine wpAny_ite_true (decide_eq_true (by rw [b1])) ?_; wp_walk using wpAny_loadPart' hl, wpAny_typeOf gT))
    all_goals first | exact ⟨_, rfl, h⟩ | skip
theorem tm_none (l : Addr) (items : Array Value) (n : Nat) (dd : Option Addr) (sl : Array (Option Value)) (k : Int) (u : Tok) (b0 : (decide (k < -(2 ^ 63)) || decide (k ≥ 2 ^ 63)) = false) (b1 : (items.isEmpty || k == 1) = false) (b2 : (decide (k ≤ 0) || items.isEmpty) = true) :
    Meets (Builtin.«tuple.__mul__» ⟨[.ref l, .int k u], []⟩) (fun _ R s => s.heap.get? l = some { cls := .type "tuple", dict := dd, data := .seq items n, slots := sl } ∧
      R (.ok (.ret (Value.ref s.heap.objs.size))) { s with heap := s.heap.push { cls := Value.type "tuple", data := Data.seq #[] }, toks := s.toks }) :=
  .of_wp fun prog w A R s h => by
    obtain ⟨hp, g, d, tk, os⟩ := s
    obtain ⟨hl, h⟩ := h
    have gi := AutoSeq1.idx_int
    wp_walk using wpAny_loadPart' hl
    repeat (first
      | (refine wpAny_ite_false (decide_eq_false (by rw [b0]; exact Bool.false_ne_true)) ?_; wp_walk using wpAny_loadPart' hl)
      | (refine wpAny_ite_false (decide_eq_false (by rw [b1]; exact Bool.false_ne_true)) ?_; wp_walk using wpAny_loadPart' hl)
      | (refine wpAny_ite_true (decide_eq_true (by rw [b2])) ?_; wp_walk using wpAny_loadPart' hl))
    all_goals first | exact ⟨_, rfl, h⟩ | skip
/-- k times: 1 and of the empty tuple: itself; 0 and below: the empty one -/
def rRepS (K : PySem.W.Frag) : R2 := fun x y H Q => ∃ l k xs, x = .ref l ∧ y = .int k ∧ SqT K H l xs ∧ -1000 ≤ k ∧ k ≤ 1000 ∧ (((xs = [] ∨ k = 1) ∧ Q (.ref l) H) ∨ (xs ≠ [] ∧ k ≤ 0 ∧ ∀ p, H p = none → Q (.ref p) (upd H p (.tup []))))
theorem op_repS {X : Cx} : OpR X (binaryOp .Mult) (rRepS X.K) := by
  intro pins s σ H x y v u Q I rx ry h
  obtain ⟨l, k, xs, rfl, rfl, hT, lo, hi, q⟩ := h
  cases rx
  obtain ⟨t, rfl⟩ := ry
  obtain ⟨its, r, ⟨⟨cls, dd, data, sl⟩, ho, hc, n, hd⟩, hs⟩ := I.tuple hT
  simp only at hc hd
  subst hc hd
  have b0 : (decide (k < -(2 ^ 63)) || decide (k ≥ 2 ^ 63)) = false := by
    rw [decide_eq_false (by omega), decide_eq_false (by omega)] <;> rfl
  refine wpAny_binaryOp_repeat_ref (T := "tuple") (U := "int") (by decide) ⟨_, ho, rfl⟩ (fun s' => typeIs_int s' k t) noFill_tuple_mul F.fills_int_mul F.slot_int_rmul repeat_tuple F.slot_int_index.lookup
    (call_meets F.slot_int_rmul (typeIs_int s k t) F.entry_int_rmul (F.args_int_rmul_2 _ _) (int_rmul_tuple k t l its.toArray n dd sl) ⟨ho, rfl, ⟨_, ho, rfl⟩, ?_⟩)
  rcases q with ⟨e, q⟩ | ⟨e, k0, q⟩
  · have b1 : (its.toArray.isEmpty || k == 1) = true := by
      rcases e with rfl | rfl
      · cases r; rfl
      · exact Bool.or_true _
    exact call_meets F.slot_tuple_mul ⟨_, ho, rfl⟩ F.entry_tuple_mul (F.args_tuple_mul_2 _ _) (tm_same l its.toArray n dd sl k t b0 b1) ⟨ho, .ref l, H, I, rfl, q⟩
  · have e0 : its.toArray.isEmpty = false := by
      cases r with
      | nil => exact absurd rfl e
      | cons _ _ => rfl
    have b1 : (its.toArray.isEmpty || k == 1) = false := by
      rw [e0, Bool.false_or]
      exact beq_eq_false_iff_ne.mpr (by omega)
    have b2 : (decide (k ≤ 0) || its.toArray.isEmpty) = true := by
      rw [decide_eq_true k0]; rfl
    refine call_meets F.slot_tuple_mul ⟨_, ho, rfl⟩ F.entry_tuple_mul (F.args_tuple_mul_2 _ _) (tm_none l its.toArray n dd sl k t b0 b1 b2) ⟨ho, ?_⟩
    refine ⟨.ref s.heap.objs.size, _, I.laid (t' := s.toks) (o := .tup []) (fun b ob q => Heap.get?_push_of_some _ q) (Nat.le_refl _) ⟨Nat.zero_le _, [], .nil, PyProof.Rows.IsTup.new _ _⟩, rfl, q _ (I.hok.fresh (Nat.le_refl _))⟩
section
variable {Γ : Gam} {X : Cx} {c0 c : Cfg} {n0 n : Nat} {σ : St} {H : Hp} {p : List (Nat × V)} {s : Sm}
variable {a b e : Expr} {es : List Expr} {ta tb : M MV} {tl : M (List MV)} {pos : Pos}
variable {K : PySem.W.Frag}
/-- a tuple (or a list) so many times -/
def oRepT (x y : MV) : M MV := fun s => match x, y with
  | .tup xs, .int k => if -1000 ≤ k ∧ k ≤ 1000 ∧ xs.length ≤ 1000 then .ok (.tup (List.replicate k.toNat xs).flatten) s else .stuck
  | _, _ => .stuck
theorem ROs.rep' {xs : List MV} {vs : List V} (r : ROs K c n xs vs []) (k : Nat) : ROs K c n (List.replicate k xs).flatten (List.replicate k vs).flatten [] := by
  induction k with
  | zero => exact .nil
  | succ k ih =>
    rw [List.replicate_succ, List.replicate_succ, List.flatten_cons, List.flatten_cons]
    exact ROs.app ih r
theorem ok_repT : Ok2 Γ (fun x y H Q => rRepT Γ.K x y H Q ∨ rRepS Γ.K x y H Q) oRepT := fun c0 n0 c σ p s x y v u f1 f2 Q R k rx ry t f q => by
  unfold oRepT at q
  split at q
  · rename_i xs k'
    obtain ⟨rfl, rfl⟩ := ry.int
    split at q
    · rename_i h
      obtain ⟨h1, h2, h3⟩ := h
      obtain ⟨a, vs, rfl, g1, g2, rfl⟩ := seqT_ok rx rfl
      by_cases e : xs = []
      · subst e
        cases g2
        have e0 : (List.replicate k'.toNat ([] : List MV)).flatten = [] := by simp
        rw [e0] at q
        exact .inr ⟨a, k', [], rfl, rfl, g1, h1, h2, .inl ⟨.inl rfl, q.val R k (.tup g1 .nil)⟩⟩
      · have e' : vs ≠ [] := fun z => e (by subst z; exact List.eq_nil_of_length_eq_zero g2.length)
        by_cases k1 : k' = 1
        · subst k1
          have e0 : (List.replicate (1 : Int).toNat xs).flatten = xs := by simp
          rw [e0] at q
          exact .inr ⟨a, 1, vs, rfl, rfl, g1, h1, h2, .inl ⟨.inr rfl, q.val R k (.tup g1 g2)⟩⟩
        · by_cases k0 : k' ≤ 0
          · have e0 : (List.replicate k'.toNat xs).flatten = [] := by
              have : k'.toNat = 0 := by omega
              rw [this]; rfl
            rw [e0] at q
            exact .inr ⟨a, k', vs, rfl, rfl, g1, h1, h2, .inr ⟨e', k0, fun z hz => q.tup R k .nil hz⟩⟩
          · exact .inl ⟨a, k', vs, rfl, rfl, g1, e', by omega, h2, by rw [← g2.length]; exact h3, fun z hz => q.tup R k (g2.rep' _) hz⟩
    · exact q.elim
  · exact q.elim
theorem pe_repTM (hK : X.K = Γ.K) (ha : PE X a (RE Γ ta)) (hb : PE X b (RE Γ tb)) : PE X (.BinOp a .Mult b pos) (RE Γ (m2 oRepT ta tb)) := pe_opM (by rw [← hK]; exact op_repT.or op_repS) ok_repT ha hb

/-! ### where a number stands in a list -/
def gIdx (x : MV) (ys : List MV) : M MV := match ys with
  | [.int i] => fun s => match seqL s x with
    | some xs => (match intsOf xs with
      | some ns => if i ∈ ns then .ok (.int (ns.idxOf i : Nat)) s else .stuck
      | none => .stuck)
    | none => .stuck
  | _ => fun _ => .stuck
theorem ok_idx : OkM Γ (rIndex Γ.K) gIdx := fun c0 n0 c σ p s x v f1 xs vs f2 Q R k rx rs t f q => by
  unfold gIdx at q
  split at q
  · rename_i i
    cases rs with
    | cons ry rt =>
      cases rt
      obtain ⟨rfl, rfl⟩ := ry.int
      split at q
      · rename_i xs e0
        split at q
        · rename_i ns e1
          split at q
          · rename_i hi
            obtain ⟨a, vs, rfl, h1, h2⟩ := seqL_ok R rx e0
            have := h2.ints e1
            subst this
            have lt := List.idxOf_lt_length_of_mem hi
            have g1 : ns[ns.idxOf i]? = some i := by rw [List.getElem?_eq_getElem lt, List.getElem_idxOf lt]
            refine ⟨a, ns.map V.int, .int i, ns.idxOf i, .int i, rfl, rfl, h1, rfl, ?_, by rw [List.getElem?_map, g1]; rfl, ?_, fun m z hm hz => ?_, q.int R k⟩
            · rw [List.all_map]
              exact List.all_eq_true.mpr fun _ _ => rfl
            · show (i == i) = true
              exact beq_self_eq_true i
            · rw [List.getElem?_map] at hz
              obtain ⟨j, e2, e3⟩ := Option.map_eq_some_iff.mp hz
              subst e3
              show (j == i) = false
              have := List.not_of_lt_findIdx (p := (· == i)) hm
              obtain ⟨lm, em⟩ := List.getElem?_eq_some_iff.mp e2
              rw [em] at this
              simpa using this
          · exact q.elim
        · exact q.elim
      · exact q.elim
  · exact q.elim

/-! ### tuple(range(n)) -/
def gTRg (x : MV) : M MV := match x with
  | .int i => fun s => if i ≤ 16777216 ∧ -16777216 ≤ i then .ok (.tup ((List.range i.toNat).map fun j => .int (j : Nat))) s else .stuck
  | _ => fun _ => .stuck
theorem ok_tRg : Ok1 Γ (fun v H Q => ∃ i, v = .int i ∧ RgOk 0 i ∧ ∀ z, H z = none → Q (.ref z) (upd H z (.tup (rgV 0 i)))) gTRg := fun c0 n0 c σ p s x v fp Q R k r t f q => by
  unfold gTRg at q
  split at q
  · rename_i i
    obtain ⟨rfl, rfl⟩ := r.int
    split at q
    · rename_i h
      refine ⟨i, rfl, ⟨by omega, by omega, by omega, by omega, by omega⟩, fun z hz => q.tup R k ?_ hz⟩
      unfold rgV
      rw [Int.sub_zero]
      generalize List.range i.toNat = ls
      induction ls with
      | nil => exact .nil
      | cons j ls ih =>
        rw [List.map_cons, List.map_cons, Int.zero_add]
        exact .cons0 .int ih
    · exact q.elim
  · exact q.elim
theorem pe_tupRgM {pp p2 pos2 : Pos} (hc : X.calm = true) (hg : Gl X "range") (hm : X.mg "range" = none) (hgt : Gl X "tuple") (hmt : X.mg "tuple" = none) (ha : PE X a (RE Γ ta)) (na : starEach [a] X.env = (false, eval a X.env) :: starEach [] X.env := by rfl)
    (nb : starEach [.Call (.Name "range" pp) [a] [] pos] X.env = (false, eval (.Call (.Name "range" pp) [a] [] pos) X.env) :: starEach [] X.env := by rfl) :
    PE X (.Call (.Name "tuple" p2) [.Call (.Name "range" pp) [a] [] pos] [] pos2) (RE Γ (m1 gTRg ta)) :=
  PE.imp (pe_tupRg hc hgt hmt (prg_1 hg hm ha na) nb) fun σ H Q h => by
    refine RE_mono (RE_1 ok_tRg h) fun x H1 hx => ?_
    obtain ⟨i, e, q⟩ := hx
    exact ⟨i, e, q⟩
end
end Mir

namespace Mir
open PySem PySem.Spec L2

section
variable {Γ : Gam} {X : Cx} {c0 c : Cfg} {n0 n : Nat} {σ : St} {H : Hp} {p : List (Nat × V)} {s : Sm}
variable {a b d e : Expr} {es : List Expr} {ta tb tc : M MV} {tl : M (List MV)} {pos : Pos}
theorem hu_room {k : Nat} {A : Around} (r : Room k A) : A.units + 200 < cLine := by
  have := r.un
  omega
/-! ### a op b op' c of whole numbers -/
def asI (m : M MV) (f : Int → M MV) : M MV := mBind m fun x => match x with
  | .int i => f i
  | _ => fun _ => .stuck
def mChain (f f' : Int → Int → Bool) (a b c : M MV) : M MV := asI a fun i => asI b fun j => if f i j = true then asI c fun k => mPure (.bl (f' j k)) else mPure (.bl false)
theorem RE_asI {m : M MV} {f : Int → M MV} {Q : VK} (h : RE Γ (asI m f) σ H Q) : RE Γ m σ H fun v H1 => ∃ i, v = .int i ∧ RE Γ (f i) σ H1 Q := by
  obtain ⟨c, p, s, e, R, h⟩ := h
  refine ⟨c, p, s, e, R, ?_⟩
  unfold asI mBind at h
  revert h
  cases m s with
  | stuck => exact id
  | exc e s1 => exact id
  | ok x s1 =>
    intro h c1 v fp R1 k1 r1 t1 f1
    dsimp only at h
    cases x with
    | int i =>
      obtain ⟨rfl, rfl⟩ := r1.int
      refine ⟨i, rfl, c1, p, s1, rfl, R1, ?_⟩
      revert h
      dsimp only
      cases f i s1 with
      | stuck => exact id
      | exc e s2 => exact fun h c2 C d R2 k2 x2 => h c2 C d R2 (k1.trans k2) x2
      | ok y s2 => exact fun h c2 u fp2 R2 k2 r2 t2 f2 => h c2 u fp2 R2 (k1.trans k2) r2 t2 (f2.back k1)
    | _ => exact h.elim
theorem RE_chain {f f' : Int → Int → Bool} {Q : VK} (h : RE Γ (mChain f f' ta tb tc) σ H Q) : tChain (rI0 fun i j => .bl (f i j)) (rI0 fun i j => .bl (f' i j)) (RE Γ ta) (RE Γ tb) (RE Γ tc) σ H Q :=
  RE_mono (RE_asI h) fun x H1 ⟨i, ex, h1⟩ => RE_mono (RE_asI h1) fun y H2 ⟨j, ey, h2⟩ => by
    subst ex ey
    refine ⟨i, j, rfl, rfl, f i j, rfl, ?_⟩
    cases e : f i j with
    | true =>
      rw [if_pos e] at h2
      rw [if_pos rfl]
      exact RE_mono (RE_asI h2) fun z H3 ⟨k, ez, h3⟩ => ⟨j, k, rfl, ez, RE_C (fun _ _ _ => .bl) h3⟩
    | false =>
      rw [if_neg (by rw [e]; exact Bool.false_ne_true)] at h2
      rw [if_neg Bool.false_ne_true]
      exact RE_C (fun _ _ _ => .bl) h2
theorem pe_chainM {op op' : CmpOp} {f f' : Int → Int → Bool} (ho : OpR X (compareOp op) (rI0 fun i j => .bl (f i j))) (ho' : OpR X (compareOp op') (rI0 fun i j => .bl (f' i j))) (ha : PE X a (RE Γ ta)) (hb : PE X b (RE Γ tb)) (hc : PE X d (RE Γ tc))
    (hm : lastMarks [op, op'] [b, d] = false := by with_unfolding_all rfl) : PE X (.Compare a [op, op'] [b, d] pos) (RE Γ (mChain f f' ta tb tc)) := PE.imp (pe_chain ho ho' ha hb hc hm) fun _ _ _ h => RE_chain h
theorem pt_chainM {op op' : CmpOp} {f f' : Int → Int → Bool} (ho : OpR X (compareOp op) (rI0 fun i j => .bl (f i j))) (ho' : OpR X (compareOp op') (rI0 fun i j => .bl (f' i j))) (ha : PE X a (RE Γ ta)) (hb : PE X b (RE Γ tb)) (hc : PE X d (RE Γ tc))
    (hm : lastMarks [op, op'] [b, d] = false := by with_unfolding_all rfl) : PT X (.Compare a [op, op'] [b, d] pos) (RT Γ (mT (mChain f f' ta tb tc))) := PT.imp (pt_chain ho ho' ha hb hc hm) fun _ _ _ h => RE_chain (RT_T h)
def bLt (i j : Int) : Bool := decide (i < j)
def bLe (i j : Int) : Bool := decide (i ≤ j)
def bGt (i j : Int) : Bool := decide (j < i)
def bGe (i j : Int) : Bool := decide (j ≤ i)
theorem oc_lt : OpR X (compareOp .Lt) (rI0 fun i j => .bl (bLt i j)) := op_lt
theorem oc_le : OpR X (compareOp .LtE) (rI0 fun i j => .bl (bLe i j)) := op_le
theorem oc_gt : OpR X (compareOp .Gt) (rI0 fun i j => .bl (bGt i j)) := op_gt
theorem oc_ge : OpR X (compareOp .GtE) (rI0 fun i j => .bl (bGe i j)) := op_ge
/-! ### comparisons in short -/
theorem pe_ltM (ha : PE X a (RE Γ ta)) (hb : PE X b (RE Γ tb)) : PE X (.Compare a [.Lt] [b] pos) (RE Γ (m2 iLt ta tb)) := pe_cmpM op_lt ok_lt ha hb (nomark b)
theorem pe_leM (ha : PE X a (RE Γ ta)) (hb : PE X b (RE Γ tb)) : PE X (.Compare a [.LtE] [b] pos) (RE Γ (m2 iLe ta tb)) := pe_cmpM op_le ok_le ha hb (nomark b)
theorem pe_gtM (ha : PE X a (RE Γ ta)) (hb : PE X b (RE Γ tb)) : PE X (.Compare a [.Gt] [b] pos) (RE Γ (m2 iGt ta tb)) := pe_cmpM op_gt ok_gt ha hb (nomark b)
theorem pe_geM (ha : PE X a (RE Γ ta)) (hb : PE X b (RE Γ tb)) : PE X (.Compare a [.GtE] [b] pos) (RE Γ (m2 iGe ta tb)) := pe_cmpM op_ge ok_ge ha hb (nomark b)
theorem pe_isNM (ha : PE X a (RE Γ ta)) (hb : PE X b (RE Γ tb)) : PE X (.Compare a [.Is] [b] pos) (RE Γ (m2 oIsN ta tb)) := pe_cmpM op_isN ok_isN ha hb (nomark b)
theorem pe_notNM (ha : PE X a (RE Γ ta)) (hb : PE X b (RE Γ tb)) : PE X (.Compare a [.IsNot] [b] pos) (RE Γ (m2 oNotN ta tb)) := pe_cmpM op_notN ok_notN ha hb (nomark b)
theorem pt_ltM (ha : PE X a (RE Γ ta)) (hb : PE X b (RE Γ tb)) : PT X (.Compare a [.Lt] [b] pos) (RT Γ (mT (m2 iLt ta tb))) := pt_cmpM op_lt ok_lt ha hb (nomark b)
theorem pt_leM (ha : PE X a (RE Γ ta)) (hb : PE X b (RE Γ tb)) : PT X (.Compare a [.LtE] [b] pos) (RT Γ (mT (m2 iLe ta tb))) := pt_cmpM op_le ok_le ha hb (nomark b)
theorem pt_gtM (ha : PE X a (RE Γ ta)) (hb : PE X b (RE Γ tb)) : PT X (.Compare a [.Gt] [b] pos) (RT Γ (mT (m2 iGt ta tb))) := pt_cmpM op_gt ok_gt ha hb (nomark b)
theorem pt_geM (ha : PE X a (RE Γ ta)) (hb : PE X b (RE Γ tb)) : PT X (.Compare a [.GtE] [b] pos) (RT Γ (mT (m2 iGe ta tb))) := pt_cmpM op_ge ok_ge ha hb (nomark b)
theorem pt_isNM (ha : PE X a (RE Γ ta)) (hb : PE X b (RE Γ tb)) : PT X (.Compare a [.Is] [b] pos) (RT Γ (mT (m2 oIsN ta tb))) := pt_cmpM op_isN ok_isN ha hb (nomark b)
theorem pt_notNM (ha : PE X a (RE Γ ta)) (hb : PE X b (RE Γ tb)) : PT X (.Compare a [.IsNot] [b] pos) (RT Γ (mT (m2 oNotN ta tb))) := pt_cmpM op_notN ok_notN ha hb (nomark b)
section
variable {k : Nat} (hr : Room k X.A) (hK : X.K = Γ.K)
include hr hK
theorem pe_eqM (ha : PE X a (RE Γ ta)) (hb : PE X b (RE Γ tb)) : PE X (.Compare a [.Eq] [b] pos) (RE Γ (m2 oEq ta tb)) := pe_cmpM (by rw [← hK]; exact op_eqP (hu_room hr)) ok_eq ha hb (nomark b)
theorem pe_neM (ha : PE X a (RE Γ ta)) (hb : PE X b (RE Γ tb)) : PE X (.Compare a [.NotEq] [b] pos) (RE Γ (m2 oNe ta tb)) := pe_cmpM (by rw [← hK]; exact op_neP (hu_room hr)) ok_ne ha hb (nomark b)
theorem pe_inM (ha : PE X a (RE Γ ta)) (hb : PE X b (RE Γ tb)) (hm : behindInMarks .In b = false) : PE X (.Compare a [.In] [b] pos) (RE Γ (m2 oIn ta tb)) := pe_cmpM (by rw [← hK]; exact op_inP (hu_room hr)) ok_in ha hb hm
theorem pe_ninM (ha : PE X a (RE Γ ta)) (hb : PE X b (RE Γ tb)) (hm : behindInMarks .NotIn b = false) : PE X (.Compare a [.NotIn] [b] pos) (RE Γ (m2 oNin ta tb)) := pe_cmpM (by rw [← hK]; exact op_ninP (hu_room hr)) ok_nin ha hb hm
theorem pt_eqM (ha : PE X a (RE Γ ta)) (hb : PE X b (RE Γ tb)) : PT X (.Compare a [.Eq] [b] pos) (RT Γ (mT (m2 oEq ta tb))) := pt_cmpM (by rw [← hK]; exact op_eqP (hu_room hr)) ok_eq ha hb (nomark b)
theorem pt_neM (ha : PE X a (RE Γ ta)) (hb : PE X b (RE Γ tb)) : PT X (.Compare a [.NotEq] [b] pos) (RT Γ (mT (m2 oNe ta tb))) := pt_cmpM (by rw [← hK]; exact op_neP (hu_room hr)) ok_ne ha hb (nomark b)
theorem pt_inM (ha : PE X a (RE Γ ta)) (hb : PE X b (RE Γ tb)) (hm : behindInMarks .In b = false) : PT X (.Compare a [.In] [b] pos) (RT Γ (mT (m2 oIn ta tb))) := pt_cmpM (by rw [← hK]; exact op_inP (hu_room hr)) ok_in ha hb hm
theorem pt_ninM (ha : PE X a (RE Γ ta)) (hb : PE X b (RE Γ tb)) (hm : behindInMarks .NotIn b = false) : PT X (.Compare a [.NotIn] [b] pos) (RT Γ (mT (m2 oNin ta tb))) := pt_cmpM (by rw [← hK]; exact op_ninP (hu_room hr)) ok_nin ha hb hm
end
end
end Mir
namespace Mir
open PySem PySem.Spec L2
abbrev GOf (K : PySem.W.Frag) (E : XK) (ca : Str → Option Addr) : Gam := ⟨K, fun cls d _ H => E cls d H, ca⟩
section
variable {P : Program} {w : World} {K : PySem.W.Frag} {mg : Str → Option Value} {base : Heap} {N : List Str} {qual : Str} {scope : Scope} {f : Addr} {cdv : Value} {A : Around} {outer : List Env} {s : Shared} {H : Hp} {E : XK} {ca : Str → Option Addr}
abbrev XOf (P : Program) (w : World) (K : PySem.W.Frag) (mg : Str → Option Value) (base : Heap) (N : List Str) (qual : Str) (scope : Scope) (f : Addr) (cdv : Value) (A : Around) (outer : List Env) (s : Shared) (H : Hp) (E : XK) : Cx := cxOf (L2.CX P w) P w K mg base N qual scope f cdv A outer s H E
theorem hp_of : PassesOwn (model P w) (XOf P w K mg base N qual scope f cdv A outer s H E).A (XOf P w K mg base N qual scope f cdv A outer s H E).env (XOf P w K mg base N qual scope f cdv A outer s H E).xe := passes_of (X := XOf P w K mg base N qual scope f cdv A outer s H E) rfl
theorem hx_of : ∀ σ, PassesAt (L2.CX P w) (XOf P w K mg base N qual scope f cdv A outer s H E) σ (fun cls d H => (GOf K E ca).W cls d σ H) := fun σ => passAt (X := XOf P w K mg base N qual scope f cdv A outer s H E) (W := fun cls d _ H => E cls d H) (takes_of rfl rfl rfl rfl) σ
end
theorem hx_no {P : Program} {w : World} {X : Cx} {Γ : Gam} : ∀ σ, PassesAt (L2.CX P w) X σ (fun cls d H => Γ.nox.W cls d σ H) := fun σ _ _ _ _ _ _ ⟨_, _, _, _, _, _, _, _, _, _, _, _, h⟩ => h.elim
end Mir

namespace Mir
open PySem PySem.Spec L2
section
variable {Γ : Gam} {X : Cx}
/-! ### x *= y, x += y -/
def iMulC : MV → MV → M MV := onI fun i j s => if i.natAbs < 2 ^ 64 ∨ j.natAbs < 2 ^ 64 then .ok (.int (i * j)) s else .stuck
theorem ok_mulC : Ok2 Γ (rI CMul fun i j => .int (i * j)) iMulC := ok2I fun c0 n0 c σ p s i j Q R k q => by
  split at q
  · rename_i h
    refine ⟨i, j, rfl, rfl, ?_, q.int R k⟩
    rcases h with h | h
    · exact .inl (by omega)
    · exact .inr (by omega)
  · exact q.elim
def iAddC (x y : MV) : M MV := fun s => match x, y with
  | .int i, .int j => .ok (.int (i + j)) s
  | .str i, .str j => if i.length + j.length ≤ sizeLine then .ok (.str (i ++ j)) s else .stuck
  | _, _ => .stuck
def rAddC : R2 := fun x y H Q => rI0 (fun i j => .int (i + j)) x y H Q ∨ (fun x y H Q => ∃ i j, x = .str i ∧ y = .str j ∧ i.length + j.length ≤ sizeLine ∧ Q (.str (i ++ j)) H : R2) x y H Q
theorem iop_addC : OpR X (inplaceOp .Add) rAddC := iop_add.or iop_add_str
theorem ok_addC : Ok2 Γ rAddC iAddC := by
  intro c0 n0 c σ p s x y v u f1 f2 Q R k rx ry t f q
  unfold iAddC at q
  split at q
  · obtain ⟨rfl, rfl⟩ := rx.int
    obtain ⟨rfl, rfl⟩ := ry.int
    exact .inl ⟨_, _, rfl, rfl, q.int R k⟩
  · obtain ⟨rfl, rfl⟩ := rx.str
    obtain ⟨rfl, rfl⟩ := ry.str
    split at q
    · rename_i h
      exact .inr ⟨_, _, rfl, rfl, h, q.str R k⟩
    · exact q.elim
  · exact q.elim
end
end Mir

namespace Mir
open PySem PySem.Spec L2
/-! ### defs as they stand behind the top -/
section
variable {K : PySem.W.Frag} {x qual : Str} {st : Stmt} {f T : Addr} {oc tc : Value} {od an td : Option Addr} {osl tsl : Array (Option Value)} {dV kV doc pm cdv ct : Value}
theorem funD0 (l : K.lookup f = some ⟨oc, od, .func (PySem.W.fnOf x qual (defArgs st) (defBody st) (defScope st) .none kV doc pm an cdv ct), osl⟩) (c : PySem.W.codeIn K cdv qual = true) (k : PySem.W.keepIn K (.ref f) = true) :
    FunD K x qual (defArgs st) (defBody st) (defScope st) [] [] f (PySem.W.fnOf x qual (defArgs st) (defBody st) (defScope st) .none kV doc pm an cdv ct) := ⟨⟨oc, od, .none, kV, doc, pm, an, cdv, ct, osl, rfl, l, c, .inl ⟨rfl, rfl⟩, .inl rfl⟩, k⟩
theorem funD1 {dvs : List V} {its : List Value} {n : Nat} (l : K.lookup f = some ⟨oc, od, .func (PySem.W.fnOf x qual (defArgs st) (defBody st) (defScope st) (.ref T) kV doc pm an cdv ct), osl⟩) (c : PySem.W.codeIn K cdv qual = true) (k : PySem.W.keepIn K (.ref f) = true)
    (lT : K.lookup T = some ⟨tc, td, .seq its.toArray n, tsl⟩) (hv : Vals dvs its) (hd : dvs ≠ []) :
    FunD K x qual (defArgs st) (defBody st) (defScope st) dvs [] f (PySem.W.fnOf x qual (defArgs st) (defBody st) (defScope st) (.ref T) kV doc pm an cdv ct) := ⟨⟨oc, od, .ref T, kV, doc, pm, an, cdv, ct, osl, rfl, l, c, .inr ⟨hd, T, _, its, n, rfl, lT, rfl, hv⟩, .inl rfl⟩, k⟩
/-- keywords of a def without defaults -/
theorem calK_of {P : Program} {w : World} {mg : Str → Option Value} {base : Heap} {ca : Str → Option Addr} {fd : FuncData} {ps ks : List Str} {k np n : Nat} {m : Fn} (F : FnOk P w K mg base (L2.CX P w) k f fd ps (spM K ca np m)) (D : FunD K x qual (defArgs st) (defBody st) (defScope st) [] [] f fd) (hm : mg x = some (.ref f))
    (h : ∀ (kV doc pm : Value) (an : Option Addr) (cdv ct : Value) (us ws : List Value), us.length = n → ws.length = ks.length → bindArgs (PySem.W.fnOf x qual (defArgs st) (defBody st) (defScope st) .none kV doc pm an cdv ct) ⟨us, ks.zip ws⟩ = pure (ps.zip (us ++ ws))) : CalK P w K mg base ca k x np n ks m := by
  refine ⟨f, fd, ps, F, hm, D.kp, fun s us ws _ h1 h2 => ?_⟩
  obtain ⟨oc, od, dV, kV, doc, pm, an, cdv, ct, osl, rfl, lk, hcd, hD, hK⟩ := D.ex
  rcases hD with ⟨_, rfl⟩ | ⟨e, _⟩
  · exact .of_eq (h kV doc pm an cdv ct us ws h1 h2)
  · exact absurd rfl e
/-- a call with all its arguments -/
theorem cal0 {P : Program} {w : World} {mg : Str → Option Value} {base : Heap} {ca : Str → Option Addr} {fd : FuncData} {ps : List Str} {k np : Nat} {m : Fn} (F : FnOk P w K mg base (L2.CX P w) k f fd ps (spM K ca np m)) (D : FunD K x qual (defArgs st) (defBody st) (defScope st) [] [] f fd) (hm : mg x = some (.ref f))
    (h : ∀ (kV doc pm : Value) (an : Option Addr) (cdv ct : Value) (us : List Value), us.length = ps.length → bindArgs (PySem.W.fnOf x qual (defArgs st) (defBody st) (defScope st) .none kV doc pm an cdv ct) ⟨us, []⟩ = pure (ps.zip us)) : CalM P w K mg base ca k x np [] m :=
  cal_of F hm D.kp (D.bindsN h) .nil (fun _ _ => .nil)
/-- .. of a def with defaults, the last ones filled in: dx what they are -/
theorem cal1 {P : Program} {w : World} {mg : Str → Option Value} {base : Heap} {ca : Str → Option Addr} {fd : FuncData} {ps : List Str} {k np : Nat} {m : Fn} {dvs : List V} {dx : List MV} (n j : Nat) (F : FnOk P w K mg base (L2.CX P w) k f fd ps (spM K ca np m)) (D : FunD K x qual (defArgs st) (defBody st) (defScope st) dvs [] f fd) (hm : mg x = some (.ref f)) (hd : dvs ≠ []) (hn : n + (dvs.length - j) = ps.length)
    (hx : ∀ c n, ROs K c n dx (dvs.drop j) []) (hs : dx.all MV.stable = true)
    (h : ∀ (T : Addr) (kV doc pm : Value) (an : Option Addr) (cdv ct : Value) (us its : List Value), us.length = n → its.length = dvs.length →
      ∃ k, bindArgs (PySem.W.fnOf x qual (defArgs st) (defBody st) (defScope st) (.ref T) kV doc pm an cdv ct) ⟨us, []⟩ = seqItems? (.ref T) >>= k ∧ k (some its.toArray) = pure (ps.zip (us ++ its.drop j))) : CalM P w K mg base ca k x np dx m := by
  obtain ⟨ds, hv, hb⟩ := D.binds1 n j hd hn h
  exact cal_of F hm D.kp hb hv hx hs
end
/-! ### the law itself -/
theorem law_in {K : PySem.W.Frag} {ca : Str → Option Addr} {f : Fn} {H : Hp} {a : Addr} {ns : List Int} (hO : Only H) (hS : SqL K H a (ns.map V.int)) (h : ∃ fin h', f [.ext (ns.map MV.int)] [] = .ok (.bl true) fin h') : spM K ca 1 f [.ref a] H (fun v _ => v = .bl true) fun _ _ _ => False := by
  obtain ⟨fin, h', e⟩ := h
  have hF : SqF K ⟨fun _ => 0, fun _ => none, H⟩ a (ns.map V.int) := by
    rcases hS with (h | ⟨o, h⟩) | h
    · rcases hO a with q | ⟨o, xs, q⟩
      · rw [q] at h; cases h
      · rw [q] at h; cases h
    · exact .inl ⟨o, h⟩
    · exact .inr fun _ => .inr h
  have hI : ∀ (c : Cfg) (n : Nat) (ns : List Int), ROs K c n (ns.map MV.int) (ns.map V.int) [] := fun c n ns => by
    induction ns with
    | nil => exact .nil
    | cons z zs ih => exact .cons0 .int ih
  refine ⟨⟨fun _ => 0, fun _ => none, H⟩, [.ext (ns.map MV.int)], [], [], rfl, rfl, rfl, ?_, fun _ _ q => (by cases q), .cons0 (.ext hF (hI _ _ ns)) .nil, fun x hx => ?_, Tmp.nil, ?_⟩
  · exact ⟨rfl, fun i mv q => (by simp [Sm.bare] at q), fun k o q => (by simp [Sm.bare] at q), fun a t q => (by cases q), rfl, fun j v q => nomatch q⟩
  · rw [List.mem_singleton.mp hx]
    rfl
  · rw [e]
    intro c' v fp ff _ _ _ r _ _ _
    cases r
    rfl
end Mir

namespace Mir
open PySem PySem.Spec L2

/-! ### mirrors run by simp: one step a lemma, what comes behind waits unapplied -/
@[simp] theorem line_num : sizeLine = 16777216 := sizeLine_eq
def Res.thn {α β : Type} (r : Res α) (f : α → M β) : Res β := match r with
  | .ok a s => f a s
  | .exc e s => .exc e s
  | .stuck => .stuck
@[simp] theorem thn_ok {α β : Type} {a : α} {s : Sm} {f : α → M β} : (Res.ok a s).thn f = f a s := Eq.trans rfl rfl
@[simp] theorem thn_exc {α β : Type} {e : MX} {s : Sm} {f : α → M β} : (Res.exc e s).thn f = .exc e s := Eq.trans rfl rfl
@[simp] theorem run_bind {α β : Type} {m : M α} {f : α → M β} {s : Sm} : mBind m f s = (m s).thn f := Eq.trans rfl rfl
@[simp] theorem run_pure {α : Type} {a : α} {s : Sm} : mPure a s = .ok a s := Eq.trans rfl rfl
@[simp] theorem run_C {v : MV} {s : Sm} : mC v s = .ok v s := Eq.trans rfl rfl
@[simp] theorem run_1 {g : MV → M MV} {a : M MV} {s : Sm} : m1 g a s = (a s).thn g := Eq.trans rfl rfl
def m2b (g : MV → MV → M MV) (b : M MV) (x : MV) : M MV := mBind b (g x)
@[simp] theorem run_2 {g : MV → MV → M MV} {a b : M MV} {s : Sm} : m2 g a b s = (a s).thn (m2b g b) := Eq.trans rfl rfl
@[simp] theorem run_2b {g : MV → MV → M MV} {b : M MV} {x : MV} {s : Sm} : m2b g b x s = (b s).thn (g x) := Eq.trans rfl rfl
@[simp] theorem run_L {f : List MV → M MV} {a : M (List MV)} {s : Sm} : mL f a s = (a s).thn f := Eq.trans rfl rfl
@[simp] theorem run_nil {s : Sm} : mNil s = .ok [] s := Eq.trans rfl rfl
def mConsB (r : M (List MV)) (x : MV) : M (List MV) := mBind r fun xs => mPure (x :: xs)
def mConsC (x : MV) (xs : List MV) : M (List MV) := mPure (x :: xs)
@[simp] theorem run_cons {a : M MV} {r : M (List MV)} {s : Sm} : mCons a r s = (a s).thn (mConsB r) := Eq.trans rfl rfl
@[simp] theorem run_consB {r : M (List MV)} {x : MV} {s : Sm} : mConsB r x s = (r s).thn (mConsC x) := Eq.trans rfl rfl
@[simp] theorem run_consC {x : MV} {xs : List MV} {s : Sm} : mConsC x xs s = .ok (x :: xs) s := Eq.trans rfl rfl
/-! slots -/
def varO (i : Nat) (s : Sm) : Option (Option MV) → Res MV
  | some (some (.lst _)) => .ok (.sl i) s
  | some (some (.dct _ _)) => .ok (.sl i) s
  | some (some (.tupo _)) => .stuck
  | some (some (.sl _)) => .stuck
  | some (some v) => .ok v s
  | _ => .stuck
theorem run_var {i : Nat} {s : Sm} : mVar i s = varO i s s.σ[i]? := by
  unfold mVar
  cases h : s.σ[i]? with
  | none => rfl
  | some o =>
    cases o with
    | none => rfl
    | some v => cases v <;> rfl
@[simp] theorem run_var' {i : Nat} {σ : List (Option MV)} {h : List MO} {p : List Nat} : mVar i ⟨σ, h, p⟩ = varO i ⟨σ, h, p⟩ σ[i]? := run_var
section
variable {i : Nat} {s : Sm}
@[simp] theorem varO_int {n : Int} : varO i s (some (some (.int n))) = .ok (.int n) s := Eq.trans rfl rfl
@[simp] theorem varO_bl {n : Bool} : varO i s (some (some (.bl n))) = .ok (.bl n) s := Eq.trans rfl rfl
@[simp] theorem varO_str {n : Str} : varO i s (some (some (.str n))) = .ok (.str n) s := Eq.trans rfl rfl
@[simp] theorem varO_non : varO i s (some (some .non)) = .ok .non s := Eq.trans rfl rfl
@[simp] theorem varO_tup {xs : List MV} : varO i s (some (some (.tup xs))) = .ok (.tup xs) s := Eq.trans rfl rfl
@[simp] theorem varO_ro {xs : List MV} : varO i s (some (some (.ro xs))) = .ok (.ro xs) s := Eq.trans rfl rfl
@[simp] theorem varO_ext {xs : List MV} : varO i s (some (some (.ext xs))) = .ok (.ext xs) s := Eq.trans rfl rfl
@[simp] theorem varO_ref {k : Nat} : varO i s (some (some (.ref k))) = .ok (.ref k) s := Eq.trans rfl rfl
@[simp] theorem varO_ty {k : String} : varO i s (some (some (.ty k))) = .ok (.ty k) s := Eq.trans rfl rfl
@[simp] theorem varO_exn {c : Str} {ns : List Str} {vs : List MV} : varO i s (some (some (.exn c ns vs))) = .ok (.exn c ns vs) s := Eq.trans rfl rfl
@[simp] theorem varO_lst {xs : List MV} : varO i s (some (some (.lst xs))) = .ok (.sl i) s := Eq.trans rfl rfl
end
def moveO (i : Nat) (s : Sm) : Option (Option MV) → Res MV
  | some (some v) => .ok v (s.out i)
  | _ => .stuck
@[simp] theorem run_move {i : Nat} {σ : List (Option MV)} {h : List MO} {p : List Nat} : mMove i ⟨σ, h, p⟩ = moveO i ⟨σ, h, p⟩ σ[i]? := by
  unfold mMove moveO
  rfl
@[simp] theorem moveO_some {i : Nat} {s : Sm} {v : MV} : moveO i s (some (some v)) = .ok v (s.out i) := Eq.trans rfl rfl
@[simp] theorem out_mk {i : Nat} {σ : List (Option MV)} {h : List MO} {p : List Nat} : Sm.out ⟨σ, h, p⟩ i = ⟨σ.set i none, h, p⟩ := Eq.trans rfl rfl
@[simp] theorem put_mk {i : Nat} {x : MV} {σ : List (Option MV)} {h : List MO} {p : List Nat} : Sm.put ⟨σ, h, p⟩ i x = ⟨σ.set i (some x), h, p⟩ := Eq.trans rfl rfl
@[simp] theorem lay_mk {o : MO} {σ : List (Option MV)} {h : List MO} {p : List Nat} : Sm.lay ⟨σ, h, p⟩ o = ⟨σ, h ++ [o], p⟩ := Eq.trans rfl rfl
@[simp] theorem dopin_mk {i : Nat} {σ : List (Option MV)} {h : List MO} {p : List Nat} : Sm.dopin ⟨σ, h, p⟩ i = ⟨σ, h, i :: p⟩ := Eq.trans rfl rfl
@[simp] theorem unpin_mk {σ : List (Option MV)} {h : List MO} {p : List Nat} : Sm.unpin ⟨σ, h, p⟩ = ⟨σ, h, p.tail⟩ := Eq.trans rfl rfl
/-! values -/
section
variable {n : Int} {b : Bool} {z : Str} {xs : List MV} {k : Nat} {c : Str} {ns : List Str} {t : String}
@[simp] theorem st_int : (MV.int n).stable = true := Eq.trans rfl rfl
@[simp] theorem st_bl : (MV.bl b).stable = true := Eq.trans rfl rfl
@[simp] theorem st_str : (MV.str z).stable = true := Eq.trans rfl rfl
@[simp] theorem st_non : MV.non.stable = true := Eq.trans rfl rfl
@[simp] theorem st_tup : (MV.tup xs).stable = true := Eq.trans rfl rfl
@[simp] theorem st_ro : (MV.ro xs).stable = true := Eq.trans rfl rfl
@[simp] theorem st_ext : (MV.ext xs).stable = true := Eq.trans rfl rfl
@[simp] theorem st_ref : (MV.ref k).stable = true := Eq.trans rfl rfl
@[simp] theorem st_exn {vs : List MV} : (MV.exn c ns vs).stable = true := Eq.trans rfl rfl
@[simp] theorem st_lst : (MV.lst xs).stable = false := Eq.trans rfl rfl
@[simp] theorem st_sl : (MV.sl k).stable = false := Eq.trans rfl rfl
@[simp] theorem st_tupo : (MV.tupo xs).stable = false := Eq.trans rfl rfl
@[simp] theorem so_int : (MV.int n).slotable = true := Eq.trans rfl rfl
@[simp] theorem so_bl : (MV.bl b).slotable = true := Eq.trans rfl rfl
@[simp] theorem so_str : (MV.str z).slotable = true := Eq.trans rfl rfl
@[simp] theorem so_non : MV.non.slotable = true := Eq.trans rfl rfl
@[simp] theorem so_tup : (MV.tup xs).slotable = true := Eq.trans rfl rfl
@[simp] theorem so_ro : (MV.ro xs).slotable = true := Eq.trans rfl rfl
@[simp] theorem so_ext : (MV.ext xs).slotable = true := Eq.trans rfl rfl
@[simp] theorem so_ref : (MV.ref k).slotable = true := Eq.trans rfl rfl
@[simp] theorem so_exn {vs : List MV} : (MV.exn c ns vs).slotable = true := Eq.trans rfl rfl
@[simp] theorem so_lst : (MV.lst xs).slotable = true := Eq.trans rfl rfl
@[simp] theorem so_sl : (MV.sl k).slotable = false := Eq.trans rfl rfl
@[simp] theorem so_tupo : (MV.tupo xs).slotable = false := Eq.trans rfl rfl
@[simp] theorem gv_int : (MV.int n).given = true := Eq.trans rfl rfl
@[simp] theorem gv_bl : (MV.bl b).given = true := Eq.trans rfl rfl
@[simp] theorem gv_str : (MV.str z).given = true := Eq.trans rfl rfl
@[simp] theorem gv_non : MV.non.given = true := Eq.trans rfl rfl
@[simp] theorem gv_tup : (MV.tup xs).given = true := Eq.trans rfl rfl
@[simp] theorem gv_ro : (MV.ro xs).given = true := Eq.trans rfl rfl
@[simp] theorem gv_ext : (MV.ext xs).given = true := Eq.trans rfl rfl
@[simp] theorem gv_ref : (MV.ref k).given = true := Eq.trans rfl rfl
@[simp] theorem gv_lst : (MV.lst xs).given = true := Eq.trans rfl rfl
@[simp] theorem gv_tupo : (MV.tupo xs).given = true := Eq.trans rfl rfl
@[simp] theorem gv_exn {vs : List MV} : (MV.exn c ns vs).given = true := Eq.trans rfl rfl
end
/-! statements -/
def Out.thn (o : Out) (b : MS) : Out := match o with
  | .nx s => b s
  | r => r
section
variable {s s1 : Sm} {a b : MS} {v : MV} {e : MX} {m : M MV} {i j : Nat}
@[simp] theorem othn_nx : (Out.nx s).thn b = b s := Eq.trans rfl rfl
@[simp] theorem othn_rt : (Out.rt v s).thn b = .rt v s := Eq.trans rfl rfl
@[simp] theorem othn_bk : (Out.bk s).thn b = .bk s := Eq.trans rfl rfl
@[simp] theorem othn_ct : (Out.ct s).thn b = .ct s := Eq.trans rfl rfl
@[simp] theorem othn_exc : (Out.exc e s).thn b = .exc e s := Eq.trans rfl rfl
@[simp] theorem run_seq : mSeq a b s = (a s).thn b := by
  unfold mSeq Out.thn
  rfl
@[simp] theorem run_next : mNext s = .nx s := Eq.trans rfl rfl
@[simp] theorem run_break : mBreak s = .bk s := Eq.trans rfl rfl
@[simp] theorem run_cont : mCont s = .ct s := Eq.trans rfl rfl
@[simp] theorem run_retN : mRetN s = .rt .non s := Eq.trans rfl rfl
/-- .. of an expression -/
def Res.out {α : Type} (r : Res α) (f : α → MS) : Out := match r with
  | .ok x s1 => f x s1
  | .exc e s1 => .exc e s1
  | .stuck => .stuck
@[simp] theorem out_ok {α : Type} {x : α} {f : α → MS} : (Res.ok x s).out f = f x s := Eq.trans rfl rfl
@[simp] theorem out_exc {α : Type} {f : α → MS} : (Res.exc e s : Res α).out f = .exc e s := Eq.trans rfl rfl
def setV (i : Nat) (x : MV) : MS := fun s1 => if x.slotable = true ∧ i ∉ s1.pin then .nx (s1.put i x) else .stuck
@[simp] theorem run_set : mSet i m s = (m s).out (setV i) := by
  unfold mSet Res.out setV
  cases m s <;> rfl
@[simp] theorem run_setV {x : MV} {σ : List (Option MV)} {h : List MO} {p : List Nat} : setV i x ⟨σ, h, p⟩ = if x.slotable = true ∧ i ∉ p then .nx ⟨σ.set i (some x), h, p⟩ else .stuck := Eq.trans rfl rfl
@[simp] theorem run_tgName {x : MV} {σ : List (Option MV)} {h : List MO} {p : List Nat} : tgName i x ⟨σ, h, p⟩ = if x.slotable = true ∧ i ∉ p then .nx ⟨σ.set i (some x), h, p⟩ else .stuck := Eq.trans rfl rfl
def parV (i j : Nat) (l : List MV) : MS := fun s1 => match l with
  | [x, y] => if (x.slotable = true ∧ y.slotable = true) ∧ i ∉ s1.pin ∧ j ∉ s1.pin then .nx ((s1.put i x).put j y) else .stuck
  | _ => .stuck
@[simp] theorem run_par {tl : M (List MV)} : mPar i j tl s = (tl s).out (parV i j) := by
  unfold mPar Res.out parV
  cases tl s with
  | ok l s1 =>
    match l with
    | [] => rfl
    | [_] => rfl
    | [_, _] => rfl
    | _ :: _ :: _ :: _ => rfl
  | exc _ _ => rfl
  | stuck => rfl
@[simp] theorem run_parV {x y : MV} {σ : List (Option MV)} {h : List MO} {p : List Nat} : parV i j [x, y] ⟨σ, h, p⟩ = if (x.slotable = true ∧ y.slotable = true) ∧ i ∉ p ∧ j ∉ p then .nx ⟨(σ.set i (some x)).set j (some y), h, p⟩ else .stuck := Eq.trans rfl rfl
def exprV (_ : MV) : MS := fun s => .nx s
@[simp] theorem run_expr : mExpr m s = (m s).out exprV := by
  unfold mExpr Res.out exprV
  cases m s <;> rfl
@[simp] theorem run_exprV : exprV v s = .nx s := Eq.trans rfl rfl
def retV (x : MV) : MS := fun s => if x.given = true then .rt x s else .stuck
@[simp] theorem run_ret : mRet m s = (m s).out retV := by
  unfold mRet Res.out retV
  cases m s <;> rfl
@[simp] theorem run_retV : retV v s = if v.given = true then .rt v s else .stuck := Eq.trans rfl rfl
def ifV (a b : MS) (k : Bool) : MS := fun s => if k = true then a s else b s
@[simp] theorem run_ifS {t : M Bool} : mIfS t a b s = (t s).out (ifV a b) := by
  unfold mIfS Res.out ifV
  cases t s <;> rfl
@[simp] theorem run_ifV {k : Bool} : ifV a b k s = if k = true then a s else b s := Eq.trans rfl rfl
def asgV (t : MV → MS) (x : MV) : MS := fun s => onlyNx (t x s)
@[simp] theorem run_asg {t : MV → MS} : mAsgT m t s = (m s).out (asgV t) := by
  unfold mAsgT mAsg Res.out asgV
  cases m s <;> rfl
@[simp] theorem run_asgV {t : MV → MS} {x : MV} : asgV t x s = onlyNx (t x s) := Eq.trans rfl rfl
@[simp] theorem only_nx : onlyNx (.nx s) = .nx s := Eq.trans rfl rfl
def augO (i : Nat) (g : MV → MV → M MV) (m : M MV) (s : Sm) : Option (Option MV) → Out
  | some (some x) => if x.stable = true then ((m s).thn (g x)).out (setV i) else .stuck
  | _ => .stuck
@[simp] theorem run_aug {g : MV → MV → M MV} {σ : List (Option MV)} {h : List MO} {p : List Nat} : mAug i g m ⟨σ, h, p⟩ = augO i g m ⟨σ, h, p⟩ σ[i]? := by
  unfold mAug augO
  dsimp only
  cases σ[i]? with
  | none => rfl
  | some o =>
    cases o with
    | none => rfl
    | some x =>
      dsimp only
      split
      · rw [run_set]
        rfl
      · rfl
@[simp] theorem augO_some {g : MV → MV → M MV} {x : MV} : augO i g m s (some (some x)) = if x.stable = true then ((m s).thn (g x)).out (setV i) else .stuck := Eq.trans rfl rfl
end
/-! tests -/
section
variable {s : Sm} {A B : M Bool} {m : M MV} {k : Bool}
def tV (x : MV) : M Bool := match x with
  | .bl b => mPure b
  | _ => fun _ => .stuck
@[simp] theorem run_T : mT m s = (m s).thn tV := by
  unfold mT mBind Res.thn tV
  rfl
@[simp] theorem run_tV : tV (.bl k) s = .ok k s := Eq.trans rfl rfl
def truV (x : MV) : M Bool := fun s => match truM s x with
  | some b => .ok b s
  | none => .stuck
@[simp] theorem run_tru : mTru m s = (m s).thn truV := by
  unfold mTru mBind Res.thn truV
  rfl
@[simp] theorem truV_bl : truV (.bl k) s = .ok k s := Eq.trans rfl rfl
@[simp] theorem truV_int {n : Int} : truV (.int n) s = .ok (n != 0) s := Eq.trans rfl rfl
@[simp] theorem truV_tup {xs : List MV} : truV (.tup xs) s = .ok (!xs.isEmpty) s := Eq.trans rfl rfl
@[simp] theorem truV_ro {xs : List MV} : truV (.ro xs) s = .ok (!xs.isEmpty) s := Eq.trans rfl rfl
@[simp] theorem truV_ext {xs : List MV} : truV (.ext xs) s = .ok (!xs.isEmpty) s := Eq.trans rfl rfl
@[simp] theorem truV_lst {xs : List MV} : truV (.lst xs) s = .ok (!xs.isEmpty) s := Eq.trans rfl rfl
@[simp] theorem truV_non : truV .non s = .ok false s := Eq.trans rfl rfl
theorem truV_sl {i : Nat} {xs : List MV} (h : lget s (.sl i) = some xs) : truV (.sl i) s = .ok (!xs.isEmpty) s := by
  have e : truM s (.sl i) = some (!xs.isEmpty) := by
    show Option.map (fun xs : List MV => !xs.isEmpty) (lget s (.sl i)) = _
    rw [h]
    rfl
  unfold truV
  rw [e]
theorem truV_ref {i : Nat} {xs : List MV} (h : lget s (.ref i) = some xs) : truV (.ref i) s = .ok (!xs.isEmpty) s := by
  have e : truM s (.ref i) = some (!xs.isEmpty) := by
    show Option.map (fun xs : List MV => !xs.isEmpty) (lget s (.ref i)) = _
    rw [h]
    rfl
  unfold truV
  rw [e]
def andV (B : M Bool) (x : Bool) : M Bool := fun s => if x = true then B s else .ok false s
def orV (B : M Bool) (x : Bool) : M Bool := fun s => if x = true then .ok true s else B s
def notV (x : Bool) : M Bool := fun s => .ok (!x) s
@[simp] theorem run_tAnd : tAndM A B s = (A s).thn (andV B) := by
  unfold tAndM mBind Res.thn andV
  cases A s with
  | ok x s1 => cases x <;> rfl
  | exc _ _ => rfl
  | stuck => rfl
@[simp] theorem run_tOr : tOrM A B s = (A s).thn (orV B) := by
  unfold tOrM mBind Res.thn orV
  cases A s with
  | ok x s1 => cases x <;> rfl
  | exc _ _ => rfl
  | stuck => rfl
@[simp] theorem run_tNot : tNotM A s = (A s).thn notV := Eq.trans rfl rfl
@[simp] theorem run_andV : andV B k s = if k = true then B s else .ok false s := Eq.trans rfl rfl
@[simp] theorem run_orV : orV B k s = if k = true then .ok true s else B s := Eq.trans rfl rfl
@[simp] theorem run_notV : notV k s = .ok (!k) s := Eq.trans rfl rfl
def ifEV (a b : M MV) (k : Bool) : M MV := fun s => if k = true then a s else b s
@[simp] theorem run_mIf {a b : M MV} : mIf A a b s = (A s).thn (ifEV a b) := by
  unfold mIf mBind Res.thn ifEV
  cases A s with
  | ok x s1 => cases x <;> rfl
  | exc _ _ => rfl
  | stuck => rfl
@[simp] theorem run_ifEV {a b : M MV} : ifEV a b k s = if k = true then a s else b s := Eq.trans rfl rfl
def asIV (f : Int → M MV) (x : MV) : M MV := match x with
  | .int i => f i
  | _ => fun _ => .stuck
@[simp] theorem run_asI {f : Int → M MV} : asI m f s = (m s).thn (asIV f) := by
  unfold asI mBind Res.thn asIV
  rfl
@[simp] theorem run_asIV {f : Int → M MV} {i : Int} : asIV f (.int i) s = f i s := Eq.trans rfl rfl
def ch1 (f f' : Int → Int → Bool) (b c : M MV) (i : Int) : M MV := asI b fun j => if f i j = true then asI c fun k => mPure (.bl (f' j k)) else mPure (.bl false)
def ch2 (f f' : Int → Int → Bool) (c : M MV) (i j : Int) : M MV := if f i j = true then asI c fun k => mPure (.bl (f' j k)) else mPure (.bl false)
def ch3 (f' : Int → Int → Bool) (j k : Int) : M MV := mPure (.bl (f' j k))
@[simp] theorem run_chain {f f' : Int → Int → Bool} {a b c : M MV} : mChain f f' a b c s = (a s).thn (asIV (ch1 f f' b c)) := run_asI
@[simp] theorem run_ch1 {f f' : Int → Int → Bool} {b c : M MV} {i : Int} : ch1 f f' b c i s = (b s).thn (asIV (ch2 f f' c i)) := run_asI
@[simp] theorem run_ch2 {f f' : Int → Int → Bool} {c : M MV} {i j : Int} : ch2 f f' c i j s = if f i j = true then (c s).thn (asIV (ch3 f' j)) else .ok (.bl false) s := by
  unfold ch2
  split
  · exact run_asI
  · rfl
@[simp] theorem run_ch3 {f' : Int → Int → Bool} {j k : Int} : ch3 f' j k s = .ok (.bl (f' j k)) s := Eq.trans rfl rfl
@[simp] theorem bLt_eq {i j : Int} : bLt i j = decide (i < j) := Eq.trans rfl rfl
@[simp] theorem bLe_eq {i j : Int} : bLe i j = decide (i ≤ j) := Eq.trans rfl rfl
@[simp] theorem bGt_eq {i j : Int} : bGt i j = decide (j < i) := Eq.trans rfl rfl
@[simp] theorem bGe_eq {i j : Int} : bGe i j = decide (j ≤ i) := Eq.trans rfl rfl
end
/-! arithmetic -/
section
variable {s : Sm} {i j : Int}
theorem run_iMul : iMul (.int i) (.int j) s = if mulOk i j = true then .ok (.int (i * j)) s else .stuck := rfl
@[simp] theorem run_iMul' (h : mulOk i j = true) : iMul (.int i) (.int j) s = .ok (.int (i * j)) s := by rw [run_iMul, if_pos h]
theorem run_iMulC : iMulC (.int i) (.int j) s = if i.natAbs < 2 ^ 64 ∨ j.natAbs < 2 ^ 64 then .ok (.int (i * j)) s else .stuck := rfl
@[simp] theorem run_iMulC' (h : j.natAbs < 18446744073709551616) : iMulC (.int i) (.int j) s = .ok (.int (i * j)) s := by rw [run_iMulC, if_pos (.inr h)]
@[simp] theorem run_iMulCl (h : i.natAbs < 18446744073709551616) : iMulC (.int i) (.int j) s = .ok (.int (i * j)) s := by rw [run_iMulC, if_pos (.inl h)]
@[simp] theorem run_iSub : iSub (.int i) (.int j) s = .ok (.int (i - j)) s := Eq.trans rfl rfl
theorem run_iDiv : iDiv (.int i) (.int j) s = if 0 < j ∧ j.natAbs < 2 ^ 9000 then .ok (.int (i / j)) s else .stuck := rfl
@[simp] theorem two_pos {n : Nat} : (0 : Int) < 2 ^ n := Int.pow_pos (by decide)
theorem lt9000 {n : Nat} (h : n < 18446744073709551616) : n < 2 ^ 9000 := Nat.lt_of_lt_of_le (show n < 2 ^ 64 from h) (Nat.pow_le_pow_right (Nat.succ_pos 1) (by decide : 64 ≤ 9000))
@[simp] theorem run_iDiv' (h : 0 < j) (h2 : j < 18446744073709551616) : iDiv (.int i) (.int j) s = .ok (.int (i / j)) s := by rw [run_iDiv, if_pos ⟨h, lt9000 (by omega)⟩]
theorem run_iMod : iMod (.int i) (.int j) s = if 0 < j then .ok (.int (i % j)) s else .stuck := rfl
@[simp] theorem run_iMod' (h : 0 < j) : iMod (.int i) (.int j) s = .ok (.int (i % j)) s := by rw [run_iMod, if_pos h]
theorem run_iPow : iPow (.int i) (.int j) s = if 0 ≤ j ∧ j ≤ 1000000 ∧ i.natAbs < 2 ^ 64 then .ok (.int (i ^ j.toNat)) s else .stuck := rfl
@[simp] theorem run_iPow' (h : 0 ≤ j) (h1 : j ≤ 1000000) (h2 : i.natAbs < 18446744073709551616) : iPow (.int i) (.int j) s = .ok (.int (i ^ j.toNat)) s := by rw [run_iPow, if_pos ⟨h, h1, h2⟩]
theorem run_iShl : iShl (.int i) (.int j) s = if 0 ≤ j ∧ j ≤ 1000000 ∧ i.natAbs < 2 ^ 64 then .ok (.int (i * 2 ^ j.toNat)) s else .stuck := rfl
@[simp] theorem run_iShl' (h : 0 ≤ j) (h1 : j ≤ 1000000) (h2 : i.natAbs < 18446744073709551616) : iShl (.int i) (.int j) s = .ok (.int (i * 2 ^ j.toNat)) s := by rw [run_iShl, if_pos ⟨h, h1, h2⟩]
@[simp] theorem run_iNeg : iNeg (.int i) s = .ok (.int (-i)) s := Eq.trans rfl rfl
@[simp] theorem run_addI : oAdd (.int i) (.int j) s = .ok (.int (i + j)) s := Eq.trans rfl rfl
@[simp] theorem run_addC : iAddC (.int i) (.int j) s = .ok (.int (i + j)) s := Eq.trans rfl rfl
@[simp] theorem run_addT {xs ys : List MV} : oAdd (.tup xs) (.tup ys) s = if xs.length + ys.length ≤ sizeLine then .ok (.tup (xs ++ ys)) s else .stuck := Eq.trans rfl rfl
@[simp] theorem run_addS {x y : Str} : oAdd (.str x) (.str y) s = if x.length + y.length ≤ sizeLine then .ok (.str (x ++ y)) s else .stuck := Eq.trans rfl rfl
theorem run_addL {x y : MV} {xs ys : List MV} (hx : seqH s x = some xs) (hy : seqH s y = some ys) : oAdd x y s = if xs.length + ys.length ≤ sizeLine then .ok (.lst (xs ++ ys)) s else .stuck := by
  unfold oAdd
  split
  · cases hx
  · cases hx
  · cases hx
  · rw [hx, hy]
@[simp] theorem run_iLt : iLt (.int i) (.int j) s = .ok (.bl (decide (i < j))) s := Eq.trans rfl rfl
@[simp] theorem run_iLe : iLe (.int i) (.int j) s = .ok (.bl (decide (i ≤ j))) s := Eq.trans rfl rfl
@[simp] theorem run_iGt : iGt (.int i) (.int j) s = .ok (.bl (decide (j < i))) s := Eq.trans rfl rfl
@[simp] theorem run_iGe : iGe (.int i) (.int j) s = .ok (.bl (decide (j ≤ i))) s := Eq.trans rfl rfl
@[simp] theorem run_eqI : oEq (.int i) (.int j) s = .ok (.bl (decide (i = j))) s := Eq.trans rfl rfl
@[simp] theorem run_neI : oNe (.int i) (.int j) s = .ok (.bl (!decide (i = j))) s := Eq.trans rfl rfl
@[simp] theorem run_isN {x : MV} (h : ∀ k, x ≠ .sl k) : oIsN x .non s = .ok (.bl (isNon x)) s := by
  unfold oIsN
  cases x <;> first | rfl | exact absurd rfl (h _)
@[simp] theorem run_notN {x : MV} (h : ∀ k, x ≠ .sl k) : oNotN x .non s = .ok (.bl (!isNon x)) s := by
  unfold oNotN
  cases x <;> first | rfl | exact absurd rfl (h _)
@[simp] theorem isNon_non : isNon .non = true := Eq.trans rfl rfl
@[simp] theorem isNon_tup {xs : List MV} : isNon (.tup xs) = false := Eq.trans rfl rfl
@[simp] theorem isNon_int : isNon (.int i) = false := Eq.trans rfl rfl
@[simp] theorem mulOk_l (h : i.natAbs < 18446744073709551616) : mulOk i j = true := by
  have h' : i.natAbs < 2 ^ 64 := h
  unfold mulOk
  rw [decide_eq_true h']
  rfl
@[simp] theorem mulOk_r (h : j.natAbs < 18446744073709551616) : mulOk i j = true := by
  have h' : j.natAbs < 2 ^ 64 := h
  unfold mulOk
  rw [decide_eq_true h', Bool.true_or, Bool.or_true]
end
/-! lists -/
section
variable {s : Sm} {σ : List (Option MV)} {h : List MO} {p : List Nat} {xs ys : List MV} {i j : Nat} {n : Int}
def lgO : Option (Option MV) → Option (List MV)
  | some (some (.lst xs)) => some xs
  | _ => none
def lgH : Option MO → Option (List MV)
  | some (.lst xs) => some xs
  | _ => none
@[simp] theorem lget_sl : lget ⟨σ, h, p⟩ (.sl i) = lgO σ[i]? := by
  unfold lget lgO
  rfl
@[simp] theorem lget_ref : lget ⟨σ, h, p⟩ (.ref i) = lgH h[i]? := by
  unfold lget lgH
  rfl
@[simp] theorem lgO_lst : lgO (some (some (.lst xs))) = some xs := Eq.trans rfl rfl
@[simp] theorem lgH_lst : lgH (some (.lst xs)) = some xs := Eq.trans rfl rfl
@[simp] theorem lset_sl : lset ⟨σ, h, p⟩ (.sl i) ys = ⟨σ.set i (some (.lst ys)), h, p⟩ := Eq.trans rfl rfl
@[simp] theorem lset_ref : lset ⟨σ, h, p⟩ (.ref i) ys = ⟨σ, h.set i (.lst ys), p⟩ := Eq.trans rfl rfl
@[simp] theorem seqL_sl : seqL s (.sl i) = lget s (.sl i) := Eq.trans rfl rfl
@[simp] theorem seqL_ref : seqL s (.ref i) = lget s (.ref i) := Eq.trans rfl rfl
@[simp] theorem seqL_ro : seqL s (.ro xs) = some xs := Eq.trans rfl rfl
@[simp] theorem seqL_ext : seqL s (.ext xs) = some xs := Eq.trans rfl rfl
@[simp] theorem seqL_lst : seqL s (.lst xs) = some xs := Eq.trans rfl rfl
@[simp] theorem seqL_tup : seqL s (.tup xs) = none := Eq.trans rfl rfl
@[simp] theorem seqL_int : seqL s (.int n) = none := Eq.trans rfl rfl
@[simp] theorem seqH_sl : seqH s (.sl i) = lget s (.sl i) := Eq.trans rfl rfl
@[simp] theorem seqH_ref : seqH s (.ref i) = lget s (.ref i) := Eq.trans rfl rfl
@[simp] theorem seqH_ro : seqH s (.ro xs) = some xs := Eq.trans rfl rfl
@[simp] theorem seqH_lst : seqH s (.lst xs) = some xs := Eq.trans rfl rfl
@[simp] theorem seqA_tup : seqA s (.tup xs) = some xs := Eq.trans rfl rfl
@[simp] theorem seqA_sl : seqA s (.sl i) = lget s (.sl i) := Eq.trans rfl rfl
@[simp] theorem seqA_ref : seqA s (.ref i) = lget s (.ref i) := Eq.trans rfl rfl
@[simp] theorem seqA_ro : seqA s (.ro xs) = some xs := Eq.trans rfl rfl
@[simp] theorem seqA_ext : seqA s (.ext xs) = some xs := Eq.trans rfl rfl
@[simp] theorem seqA_lst : seqA s (.lst xs) = some xs := Eq.trans rfl rfl
@[simp] theorem isL_eq {x : MV} : isL s x = (seqL s x).isSome := Eq.trans rfl rfl
@[simp] theorem run_tupM : gTupM xs s = if xs.all MV.stable = true ∧ xs.length ≤ sizeLine then .ok (.tup xs) s else .stuck := Eq.trans rfl rfl
@[simp] theorem run_lstM : gLstM xs s = if xs.all MV.stable = true ∧ xs.length ≤ sizeLine then .ok (.lst xs) s else .stuck := Eq.trans rfl rfl
@[simp] theorem run_frz : gFrz (.lst xs) s = .ok (.ro xs) s := Eq.trans rfl rfl
@[simp] theorem run_box : gBox (.lst xs) s = .ok (.ref s.h.length) (s.lay (.lst xs)) := Eq.trans rfl rfl
def ixO (s : Sm) : Option MV → Res MV
  | some v => .ok v s
  | none => .stuck
@[simp] theorem ixO_some {v : MV} : ixO s (some v) = .ok v s := Eq.trans rfl rfl
@[simp] theorem run_ixT : oIx (.tup xs) (.int n) s = ixO s (L2.atI xs n) := by
  unfold oIx ixO
  rfl
def ixL (s : Sm) (n : Int) : Option (List MV) → Res MV
  | some xs => ixO s (L2.atI xs n)
  | none => .stuck
@[simp] theorem ixL_some : ixL s n (some xs) = ixO s (L2.atI xs n) := Eq.trans rfl rfl
theorem ixL_eq {o : Option (List MV)} : (match o with | some xs => (match L2.atI xs n with | some v => Res.ok v s | none => .stuck) | none => .stuck) = ixL s n o := by
  cases o with
  | none => rfl
  | some xs =>
    show _ = ixO s (L2.atI xs n)
    unfold ixO
    rfl
@[simp] theorem run_ixS : oIx (.sl i) (.int n) s = ixL s n (lget s (.sl i)) := ixL_eq
@[simp] theorem run_ixR : oIx (.ref i) (.int n) s = ixL s n (lget s (.ref i)) := ixL_eq
@[simp] theorem run_ixro : oIx (.ro xs) (.int n) s = ixO s (L2.atI xs n) := ixL_eq (o := some xs)
@[simp] theorem run_ixext : oIx (.ext xs) (.int n) s = ixO s (L2.atI xs n) := ixL_eq (o := some xs)
@[simp] theorem run_ixlst : oIx (.lst xs) (.int n) s = ixO s (L2.atI xs n) := ixL_eq (o := some xs)
@[simp] theorem run_len_tup : gLen (.tup xs) s = .ok (.int xs.length) s := Eq.trans rfl rfl
def lenO (s : Sm) : Option (List MV) → Res MV
  | some xs => .ok (.int xs.length) s
  | none => .stuck
@[simp] theorem lenO_some : lenO s (some xs) = .ok (.int xs.length) s := Eq.trans rfl rfl
@[simp] theorem run_len_sl : gLen (.sl i) s = lenO s (lget s (.sl i)) := by
  unfold gLen lenO
  rfl
@[simp] theorem run_len_ref : gLen (.ref i) s = lenO s (lget s (.ref i)) := by
  unfold gLen lenO
  rfl
@[simp] theorem run_len_lst : gLen (.lst xs) s = .ok (.int xs.length) s := Eq.trans rfl rfl
@[simp] theorem run_len_ro : gLen (.ro xs) s = .ok (.int xs.length) s := Eq.trans rfl rfl
@[simp] theorem run_len_ext : gLen (.ext xs) s = .ok (.int xs.length) s := Eq.trans rfl rfl
@[simp] theorem run_abs : gAbs (.int n) s = .ok (.int (if n < 0 then -n else n)) s := Eq.trans rfl rfl
@[simp] theorem run_int : gInt (.int n) s = .ok (.int n) s := Eq.trans rfl rfl
@[simp] theorem run_max2 {m : Int} : gMax2 (.int n) (.int m) s = .ok (.int (if m > n then m else n)) s := Eq.trans rfl rfl
@[simp] theorem run_min2 {m : Int} : gMin2 (.int n) (.int m) s = .ok (.int (if m < n then m else n)) s := Eq.trans rfl rfl
@[simp] theorem run_onL {g : MV → M MV} {x : MV} : onL g [x] s = g x s := Eq.trans rfl rfl
@[simp] theorem run_onL2 {g : MV → MV → M MV} {x y : MV} : onL2 g [x, y] s = g x y s := Eq.trans rfl rfl
@[simp] theorem run_tuple_tup : gTuple (.tup xs) s = .ok (.tup xs) s := Eq.trans rfl rfl
def tupO (s : Sm) : Option (List MV) → Res MV
  | some xs => .ok (.tup xs) s
  | none => .stuck
@[simp] theorem tupO_some : tupO s (some xs) = .ok (.tup xs) s := Eq.trans rfl rfl
@[simp] theorem run_tuple_sl : gTuple (.sl i) s = tupO s (lget s (.sl i)) := by
  unfold gTuple tupO
  rfl
@[simp] theorem run_tuple_ro : gTuple (.ro xs) s = .ok (.tup xs) s := Eq.trans rfl rfl
@[simp] theorem run_tuple_lst : gTuple (.lst xs) s = .ok (.tup xs) s := Eq.trans rfl rfl
@[simp] theorem run_tuple_ext : gTuple (.ext xs) s = .ok (.tup xs) s := Eq.trans rfl rfl
def lstO (s : Sm) : Option (List MV) → Res MV
  | some xs => .ok (.lst xs) s
  | none => .stuck
@[simp] theorem lstO_some : lstO s (some xs) = .ok (.lst xs) s := Eq.trans rfl rfl
@[simp] theorem run_list {x : MV} : gList x s = lstO s (seqA s x) := by
  unfold gList lstO
  rfl
def mMV (g : MV → List MV → M MV) (ok : Sm → MV → Bool) (tl : M (List MV)) (x : MV) : M MV := fun s => if ok s x = true then (tl s).thn (g x) else .stuck
@[simp] theorem run_mM {ok : Sm → MV → Bool} {g : MV → List MV → M MV} {a : M MV} {tl : M (List MV)} : mM ok g a tl s = (a s).thn (mMV g ok tl) := Eq.trans rfl rfl
@[simp] theorem run_mMV {ok : Sm → MV → Bool} {g : MV → List MV → M MV} {x : MV} {tl : M (List MV)} : mMV g ok tl x s = if ok s x = true then (tl s).thn (g x) else .stuck := Eq.trans rfl rfl
def appO (s : Sm) (x y : MV) : Option (List MV) → Res MV
  | some xs => if y.stable = true ∧ xs.length < sizeLine then .ok .non (lset s x (xs ++ [y])) else .stuck
  | none => .stuck
@[simp] theorem appO_some {x y : MV} : appO s x y (some xs) = if y.stable = true ∧ xs.length < sizeLine then .ok .non (lset s x (xs ++ [y])) else .stuck := Eq.trans rfl rfl
@[simp] theorem run_app {x y : MV} : gApp x [y] s = appO s x y (lget s x) := by
  unfold gApp appO
  rfl
def extO (s : Sm) (x : MV) : Option (List MV) → Option (List MV) → Res MV
  | some xs, some zs => if xs.length + zs.length ≤ sizeLine then .ok .non (lset s x (xs ++ zs)) else .stuck
  | _, _ => .stuck
@[simp] theorem extO_some {x : MV} : extO s x (some xs) (some ys) = if xs.length + ys.length ≤ sizeLine then .ok .non (lset s x (xs ++ ys)) else .stuck := Eq.trans rfl rfl
@[simp] theorem run_ext {x y : MV} : gExt x [y] s = extO s x (lget s x) (seqH s y) := by
  unfold gExt extO
  rfl
def popO (s : Sm) (x : MV) : Option (List MV) → Res MV
  | some xs => (match xs[xs.length - 1]? with | some y => .ok y (lset s x xs.dropLast) | none => .stuck)
  | none => .stuck
@[simp] theorem popO_snoc {x y : MV} : popO s x (some (xs ++ [y])) = .ok y (lset s x xs) := by
  unfold popO
  simp
@[simp] theorem run_pop {x : MV} : gPop x [] s = popO s x (lget s x) := by
  unfold gPop popO
  rfl
def popAtO (s : Sm) (x : MV) (n : Int) : Option (List MV) → Res MV
  | some xs => (match xs[n.toNat]? with | some y => if 0 ≤ n ∧ n < 2 ^ 63 then .ok y (lset s x (xs.eraseIdx n.toNat)) else .stuck | none => .stuck)
  | none => .stuck
@[simp] theorem popAtO_0 {x y : MV} : popAtO s x 0 (some (y :: xs)) = .ok y (lset s x xs) := by
  unfold popAtO
  simp
@[simp] theorem run_popAt {x : MV} : gPopAt x [.int n] s = popAtO s x n (lget s x) := by
  unfold gPopAt popAtO
  rfl
/-! xs[i] = .. -/
def subO (s : Sm) (o : MV) (n : Int) (x : MV) : Option (List MV) → Out
  | some xs => (match ixN xs.length n with | some j => .nx (lset s o (xs.set j x)) | none => .stuck)
  | none => .stuck
def subB (x o : MV) (i : MV) : MS := fun s => match i with
  | .int n => subO s o n x (lget s o)
  | _ => .stuck
def subA (b : M MV) (x o : MV) : MS := fun s => match b s with
  | .ok i s1 => subB x o i s1
  | _ => .stuck
def Res.outS {α : Type} (r : Res α) (f : α → MS) : Out := match r with
  | .ok x s1 => f x s1
  | _ => .stuck
@[simp] theorem outS_ok {α : Type} {x : α} {f : α → MS} : (Res.ok x s).outS f = f x s := Eq.trans rfl rfl
@[simp] theorem run_tgSub {a b : M MV} {x : MV} : tgSub a b x s = if x.stable = true then (a s).outS (fun o s1 => (b s1).outS (subB x o)) else .stuck := by
  unfold tgSub
  split
  · unfold mBind Res.outS
    cases a s with
    | stuck => rfl
    | exc _ _ => rfl
    | ok o s1 =>
      dsimp only
      cases b s1 with
      | stuck => rfl
      | exc _ _ => rfl
      | ok i s2 =>
        dsimp only [mPure]
        cases i <;> rfl
  · rfl
@[simp] theorem run_subB {x o : MV} : subB x o (.int n) s = subO s o n x (lget s o) := Eq.trans rfl rfl
theorem subO_at {o x : MV} {j : Nat} (h : ixN xs.length n = some j) : subO s o n x (some xs) = .nx (lset s o (xs.set j x)) := by
  show (match ixN xs.length n with | some j => Out.nx (lset s o (xs.set j x)) | none => Out.stuck) = _
  rw [h]
@[simp] theorem subO_some {o x : MV} : subO s o n x (some xs) = (match ixN xs.length n with | some j => .nx (lset s o (xs.set j x)) | none => .stuck) := Eq.trans rfl rfl
end
/-! loops, iterators -/
section
variable {s : Sm} {t : MV → MS} {b : MS} {it : M MIt} {x : MV} {xs : List MV} {i : Nat} {σ : List (Option MV)} {h : List MO} {p : List Nat} {v : MV} {e : MX}
def forV (t : MV → MS) (b : MS) (J : MIt) : MS := fun s1 => match J.back with
  | none => loopM t b J.items s1
  | some i => finO i J.items (loopM t b J.items (s1.dopin i))
@[simp] theorem run_for : mFor it t b s = (it s).out (forV t b) := by
  unfold mFor Res.out forV
  cases it s <;> rfl
@[simp] theorem forV_none : forV t b ⟨xs, none⟩ s = loopM t b xs s := Eq.trans rfl rfl
@[simp] theorem forV_some : forV t b ⟨xs, some i⟩ s = finO i xs (loopM t b xs (s.dopin i)) := Eq.trans rfl rfl
@[simp] theorem finO_nx : finO i xs (.nx s) = .nx (s.unpin.put i (.lst xs)) := Eq.trans rfl rfl
@[simp] theorem finO_rt : finO i xs (.rt v s) = .rt v s.unpin := Eq.trans rfl rfl
@[simp] theorem finO_exc : finO i xs (.exc e s) = .exc e s.unpin := Eq.trans rfl rfl
@[simp] theorem loop_nil : loopM t b [] s = .nx s := Eq.trans rfl rfl
/-- one turn -/
def Out.turn (o : Out) (k : MS) : Out := match o with
  | .nx s2 => k s2
  | .ct s2 => k s2
  | .bk s2 => .nx s2
  | .rt v s2 => .rt v s2
  | .exc e s2 => .exc e s2
  | .stuck => .stuck
@[simp] theorem turn_nx {k : MS} : (Out.nx s).turn k = k s := Eq.trans rfl rfl
@[simp] theorem turn_ct {k : MS} : (Out.ct s).turn k = k s := Eq.trans rfl rfl
@[simp] theorem turn_bk {k : MS} : (Out.bk s).turn k = .nx s := Eq.trans rfl rfl
@[simp] theorem turn_rt {k : MS} : (Out.rt v s).turn k = .rt v s := Eq.trans rfl rfl
@[simp] theorem turn_exc {k : MS} : (Out.exc e s).turn k = .exc e s := Eq.trans rfl rfl
theorem loop_cons : loopM t b (x :: xs) s = match t x s with
    | .nx s1 => (b s1).turn (loopM t b xs)
    | _ => .stuck := by
  show (match t x s with
    | .nx s1 => _
    | _ => _) = _
  cases t x s with
  | nx s1 =>
    dsimp only
    cases b s1 <;> rfl
  | _ => rfl
theorem loop_step {s1 : Sm} (ht : t x s = .nx s1) : loopM t b (x :: xs) s = (b s1).turn (loopM t b xs) := by
  rw [loop_cons, ht]
@[simp] theorem run_iter {m : M MV} : mIter m s = (m s).thn gIter := Eq.trans rfl rfl
def itO (i : Nat) (s : Sm) : Option (Option MV) → Res MIt
  | some (some (.lst xs)) => .ok ⟨xs, some i⟩ (s.out i)
  | _ => .stuck
@[simp] theorem itO_lst : itO i s (some (some (.lst xs))) = .ok ⟨xs, some i⟩ (s.out i) := Eq.trans rfl rfl
@[simp] theorem iter_sl : gIter (.sl i) ⟨σ, h, p⟩ = itO i ⟨σ, h, p⟩ σ[i]? := by
  unfold gIter itO
  rfl
@[simp] theorem iter_tup : gIter (.tup xs) s = .ok ⟨xs, none⟩ s := Eq.trans rfl rfl
@[simp] theorem iter_ro : gIter (.ro xs) s = .ok ⟨xs, none⟩ s := Eq.trans rfl rfl
@[simp] theorem iter_ext : gIter (.ext xs) s = .ok ⟨xs, none⟩ s := Eq.trans rfl rfl
@[simp] theorem iter_lst : gIter (.lst xs) s = .ok ⟨xs, none⟩ s := Eq.trans rfl rfl
@[simp] theorem run_itL {g : List MV → M MIt} {tl : M (List MV)} : mItL g tl s = (tl s).thn g := Eq.trans rfl rfl
@[simp] theorem run_range1 {j : Int} (b : bound62 j = true) : gRange1 [.int j] s = .ok ⟨rgM 0 j.toNat, none⟩ s := by
  unfold gRange1
  dsimp only
  rw [if_pos b]
@[simp] theorem run_range2 {i j : Int} (a : bound62 i = true) (b : bound62 j = true) : gRange2 [.int i, .int j] s = .ok ⟨rgM i (j - i).toNat, none⟩ s := by
  unfold gRange2
  dsimp only
  rw [if_pos ⟨a, b⟩]
@[simp] theorem run_rangeD {i j d : Int} (e : d = -1) (a : bound62 i = true) (b : bound62 j = true) : gRangeD [.int i, .int j, .int d] s = .ok ⟨rgD i d (i - j).toNat, none⟩ s := by
  unfold gRangeD
  dsimp only
  rw [if_pos ⟨e, a, b⟩]
@[simp] theorem run_zipT {ys : List MV} : gZip [.tup xs, .tup ys] s = .ok ⟨zipM xs ys, none⟩ s := Eq.trans rfl rfl
theorem bound62_of {i : Int} (h1 : -4611686018427387904 ≤ i) (h2 : i < 4611686018427387904) : bound62 i = true := by
  unfold bound62
  rw [decide_eq_true h1, decide_eq_true h2]
  rfl
/-! while -/
variable {T : M Bool} {g : Nat}
def whV (T : M Bool) (b : MS) (g : Nat) (k : Bool) : MS := fun s => if k = true then (b s).turn (whileG T b g) else .nx s
theorem run_while : mWhile T b s = whileG T b GAS s := rfl
theorem while_step : whileG T b (g + 1) s = (T s).out (whV T b g) := by
  show (match T s with
    | .ok k s1 => _
    | .exc e s1 => _
    | .stuck => _) = _
  unfold Res.out whV
  cases T s with
  | stuck => rfl
  | exc _ _ => rfl
  | ok k s1 =>
    cases k with
    | false => rfl
    | true =>
      dsimp only
      rw [if_pos rfl, if_pos rfl]
      cases b s1 <;> rfl
theorem while_true {s1 : Sm} (ht : T s = .ok true s1) : whileG T b (g + 1) s = (b s1).turn (whileG T b g) := by
  rw [while_step, ht]
  rfl
theorem while_false {s1 : Sm} (ht : T s = .ok false s1) : whileG T b (g + 1) s = .nx s1 := by
  rw [while_step, ht]
  rfl
@[simp] theorem run_whV {k : Bool} : whV T b g k s = if k = true then (b s).turn (whileG T b g) else .nx s := Eq.trans rfl rfl
end
/-! places -/
section
variable {x y z w u : MV} {xs : List MV}
theorem ixN_nat {n i : Nat} (h : i < n) : ixN n (i : Int) = some i := by
  unfold ixN
  rw [if_pos (by omega), if_pos (by omega)]
  simp
theorem at_nat {i : Nat} : L2.atI xs (i : Int) = xs[i]? := by
  unfold L2.atI
  by_cases h : i < xs.length
  · rw [ixN_nat h]
    rfl
  · have : ixN xs.length (i : Int) = none := by
      unfold ixN
      rw [if_pos (by omega), if_neg (by omega)]
    rw [this, List.getElem?_eq_none (by omega)]
    rfl
theorem at_last : L2.atI (xs ++ [x]) (-1) = some x := by
  unfold L2.atI ixN
  rw [if_neg (by omega), if_pos (by simp; omega)]
  have : ((-1 : Int) + ((xs ++ [x]).length : Nat)).toNat = xs.length := by simp; omega
  rw [Option.bind_some, this]
  simp
@[simp] theorem at_0 : L2.atI (x :: xs) 0 = some x := at_nat (i := 0)
@[simp] theorem at_1 : L2.atI (x :: y :: xs) 1 = some y := at_nat (i := 1)
@[simp] theorem at_2 : L2.atI (x :: y :: z :: xs) 2 = some z := at_nat (i := 2)
@[simp] theorem at_3 : L2.atI (x :: y :: z :: w :: xs) 3 = some w := at_nat (i := 3)
@[simp] theorem at_4 : L2.atI (x :: y :: z :: w :: u :: xs) 4 = some u := at_nat (i := 4)
@[simp] theorem ixN_0 {n : Nat} : ixN (n + 1) 0 = some 0 := ixN_nat (i := 0) (Nat.succ_pos _)
@[simp] theorem ixN_1 {n : Nat} : ixN (n + 1 + 1) 1 = some 1 := ixN_nat (i := 1) (by omega)
@[simp] theorem ixN_2 {n : Nat} : ixN (n + 1 + 1 + 1) 2 = some 2 := ixN_nat (i := 2) (by omega)
end
/-! defs and calls -/
def Out.fin (pins : List Nat) (k : Nat) (o : Out) : FRes := match o with
  | .rt v s => .ok v (finsOf s pins k) s.h
  | .nx s => .ok .non (finsOf s pins k) s.h
  | .exc e s => .exc e s.h
  | _ => .stuck
section
variable {s : Sm} {σ : List (Option MV)} {h : List MO} {p : List Nat} {v x : MV} {e : MX} {pins : List Nat} {k n np i : Nat} {b : MS} {xs dx as : List MV} {f : Fn} {fs : List (Option MV)} {o : Option MV}
@[simp] theorem fin_rt : (Out.rt v s).fin pins k = .ok v (finsOf s pins k) s.h := Eq.trans rfl rfl
@[simp] theorem fin_nx : (Out.nx s).fin pins k = .ok .non (finsOf s pins k) s.h := Eq.trans rfl rfl
@[simp] theorem fin_exc : (Out.exc e s).fin pins k = .exc e s.h := Eq.trans rfl rfl
@[simp] theorem run_fn : mkFn n pins b xs h = (b ⟨xs.map some ++ List.replicate (n - xs.length) none, h, pins⟩).fin pins xs.length := by
  unfold mkFn Out.fin
  rfl
@[simp] theorem finsOf_0 : finsOf s pins 0 = [] := Eq.trans rfl rfl
@[simp] theorem finsOf_1 : finsOf s pins 1 = [finOf s pins 0] := Eq.trans rfl rfl
@[simp] theorem finsOf_2 : finsOf s pins 2 = [finOf s pins 0, finOf s pins 1] := Eq.trans rfl rfl
@[simp] theorem finsOf_3 : finsOf s pins 3 = [finOf s pins 0, finOf s pins 1, finOf s pins 2] := Eq.trans rfl rfl
@[simp] theorem finsOf_4 : finsOf s pins 4 = [finOf s pins 0, finOf s pins 1, finOf s pins 2, finOf s pins 3] := Eq.trans rfl rfl
@[simp] theorem finsOf_5 : finsOf s pins 5 = [finOf s pins 0, finOf s pins 1, finOf s pins 2, finOf s pins 3, finOf s pins 4] := Eq.trans rfl rfl
def finV : Option (Option MV) → Option MV
  | some (some v) => if v.stable = false ∧ v.slotable = true then some v else none
  | _ => none
@[simp] theorem run_finOf : finOf ⟨σ, h, p⟩ pins i = if i ∈ pins then finV σ[i]? else none := by
  unfold finOf finV
  rfl
@[simp] theorem finV_some : finV (some (some v)) = if v.stable = false ∧ v.slotable = true then some v else none := Eq.trans rfl rfl
@[simp] theorem finV_none : finV (some none) = none := Eq.trans rfl rfl
/-- what a call gives back -/
def FRes.back (xs : List MV) (s1 : Sm) (r : FRes) : Res MV := match r with
  | .ok v fin h => .ok v (giveBack xs fin { s1 with h := h })
  | .exc e h => .exc e { s1 with h := h }
  | .stuck => .stuck
@[simp] theorem back_ok : (FRes.ok v fs h).back xs s = .ok v (giveBack xs fs { s with h := h }) := Eq.trans rfl rfl
def lentO (f : Fn) (xs : List MV) : Option (List MV × Sm) → Res MV
  | some (as, s1) => (f as s1.h).back xs s1
  | none => .stuck
@[simp] theorem lentO_some : lentO f xs (some (as, s)) = (f as s.h).back xs s := Eq.trans rfl rfl
@[simp] theorem run_call {tl : M (List MV)} : mCall np dx f tl s = (tl s).thn (callG np dx f) := Eq.trans rfl rfl
@[simp] theorem run_callG : callG np dx f xs s = if xs.length + dx.length = np then lentO f (xs ++ dx) (lend (xs ++ dx) s) else .stuck := by
  unfold callG
  split
  · unfold callF lentO
    cases lend (xs ++ dx) s with
    | none => rfl
    | some q =>
      obtain ⟨as, s1⟩ := q
      dsimp only
      unfold FRes.back
      cases f as s1.h <;> rfl
  · rfl
def lendC (x : MV) : Option (List MV × Sm) → Option (List MV × Sm)
  | some (as, s') => some (x :: as, s')
  | none => none
@[simp] theorem lendC_some : lendC x (some (as, s)) = some (x :: as, s) := Eq.trans rfl rfl
def lendS (i : Nat) (xs : List MV) (s : Sm) : Option (Option MV) → Option (List MV × Sm)
  | some (some v) => if v.slotable = true then lendC v (lend xs (s.out i)) else none
  | _ => none
@[simp] theorem lend_nil : lend [] s = some ([], s) := Eq.trans rfl rfl
@[simp] theorem lend_sl : lend (.sl i :: xs) ⟨σ, h, p⟩ = lendS i xs ⟨σ, h, p⟩ σ[i]? := by
  show (match σ[i]? with
    | some (some v) => _
    | _ => _) = _
  unfold lendS
  cases σ[i]? with
  | none => rfl
  | some o =>
    cases o with
    | none => rfl
    | some v =>
      dsimp only
      split
      · unfold lendC
        cases lend xs (Sm.out ⟨σ, h, p⟩ i) <;> rfl
      · rfl
@[simp] theorem lendS_some : lendS i xs s (some (some v)) = if v.slotable = true then lendC v (lend xs (s.out i)) else none := Eq.trans rfl rfl
theorem lend_v (hx : ∀ i, x ≠ .sl i) : lend (x :: xs) s = if x.slotable = true then lendC x (lend xs s) else none := by
  cases x with
  | sl i => exact absurd rfl (hx i)
  | _ => (show (if _ then _ else _) = _; split <;> first | rfl | (unfold lendC; cases lend xs s <;> rfl))
@[simp] theorem lend_int {m : Int} : lend (.int m :: xs) s = lendC (.int m) (lend xs s) := lend_v fun _ e => by cases e
@[simp] theorem lend_bl {m : Bool} : lend (.bl m :: xs) s = lendC (.bl m) (lend xs s) := lend_v fun _ e => by cases e
@[simp] theorem lend_str {m : Str} : lend (.str m :: xs) s = lendC (.str m) (lend xs s) := lend_v fun _ e => by cases e
@[simp] theorem lend_non : lend (.non :: xs) s = lendC .non (lend xs s) := lend_v fun _ e => by cases e
@[simp] theorem lend_tup {m : List MV} : lend (.tup m :: xs) s = lendC (.tup m) (lend xs s) := lend_v fun _ e => by cases e
@[simp] theorem lend_ro {m : List MV} : lend (.ro m :: xs) s = lendC (.ro m) (lend xs s) := lend_v fun _ e => by cases e
@[simp] theorem lend_ext {m : List MV} : lend (.ext m :: xs) s = lendC (.ext m) (lend xs s) := lend_v fun _ e => by cases e
@[simp] theorem lend_lst {m : List MV} : lend (.lst m :: xs) s = lendC (.lst m) (lend xs s) := lend_v fun _ e => by cases e
@[simp] theorem lend_ref {m : Nat} : lend (.ref m :: xs) s = lendC (.ref m) (lend xs s) := lend_v fun _ e => by cases e
@[simp] theorem gb_nil : giveBack [] fs s = s := Eq.trans rfl rfl
@[simp] theorem gb_sl : giveBack (.sl i :: xs) (some v :: fs) s = giveBack xs fs (s.put i v) := Eq.trans rfl rfl
@[simp] theorem gb_sl0 : giveBack (.sl i :: xs) (none :: fs) s = giveBack xs fs s := Eq.trans rfl rfl
@[simp] theorem gb_int {m : Int} : giveBack (.int m :: xs) (o :: fs) s = giveBack xs fs s := Eq.trans rfl rfl
@[simp] theorem gb_bl {m : Bool} : giveBack (.bl m :: xs) (o :: fs) s = giveBack xs fs s := Eq.trans rfl rfl
@[simp] theorem gb_str {m : Str} : giveBack (.str m :: xs) (o :: fs) s = giveBack xs fs s := Eq.trans rfl rfl
@[simp] theorem gb_non : giveBack (.non :: xs) (o :: fs) s = giveBack xs fs s := Eq.trans rfl rfl
@[simp] theorem gb_tup {m : List MV} : giveBack (.tup m :: xs) (o :: fs) s = giveBack xs fs s := Eq.trans rfl rfl
@[simp] theorem gb_ro {m : List MV} : giveBack (.ro m :: xs) (o :: fs) s = giveBack xs fs s := Eq.trans rfl rfl
@[simp] theorem gb_ext {m : List MV} : giveBack (.ext m :: xs) (o :: fs) s = giveBack xs fs s := Eq.trans rfl rfl
@[simp] theorem gb_lst {m : List MV} : giveBack (.lst m :: xs) (o :: fs) s = giveBack xs fs s := Eq.trans rfl rfl
@[simp] theorem gb_ref {m : Nat} : giveBack (.ref m :: xs) (o :: fs) s = giveBack xs fs s := Eq.trans rfl rfl
end
/-! comprehensions -/
section
variable {s s1 s2 s3 : Sm} {ct : CT} {vs : List Nat} {tt : M Bool} {te : M MV} {it : M MIt} {xs acc : List MV} {x y : MV} {i : Nat} {σ l0 l : List (Option MV)} {h : List MO} {p : List Nat}
def Res.lcBack (r : Res (List MV)) (s1 : Sm) (vs : List Nat) : Res MV := match r with
  | .ok acc s2 => .ok (.lst acc) (s1.backTo s2 vs)
  | _ => .stuck
@[simp] theorem lcBack_ok : (Res.ok acc s2).lcBack s1 vs = .ok (.lst acc) (s1.backTo s2 vs) := Eq.trans rfl rfl
def lcV (ct : CT) (vs : List Nat) (tt : M Bool) (te : M MV) (J : MIt) : M MV := fun s1 => if lcOk s1 vs = true then (match J.back with
    | none => (match lcLoop ct vs tt te J.items [] (s1.wipe vs) with
      | .ok acc s2 => .ok (.lst acc) (s1.backTo s2 vs)
      | _ => .stuck)
    | some i => if i ∉ vs then (match lcLoop ct vs tt te J.items [] ((s1.dopin i).wipe vs) with
      | .ok acc s2 => .ok (.lst acc) ((s1.backTo s2 vs).unpin.put i (.lst J.items))
      | _ => .stuck) else .stuck) else .stuck
theorem run_lc0 : mLc it ct vs tt te s = (it s).thn (lcV ct vs tt te) := by
  unfold mLc Res.thn lcV
  cases it s with
  | ok J s1 =>
    obtain ⟨its, bk⟩ := J
    cases bk <;> rfl
  | exc _ _ => rfl
  | stuck => rfl
@[simp] theorem run_lc : mLc it ct vs tt te s = (it s).thn (lcV ct vs tt te) := run_lc0
theorem lcV_none (ok : lcOk s1 vs = true) (e : lcLoop ct vs tt te xs [] (s1.wipe vs) = .ok acc s2) : lcV ct vs tt te ⟨xs, none⟩ s1 = .ok (.lst acc) (s1.backTo s2 vs) := by
  unfold lcV
  rw [if_pos ok, e]
theorem lc_map (S : Sm) (f : MV → MV) : ∀ (xs acc : List MV), acc.length + xs.length ≤ 16777216 → (∀ x ∈ xs, ∃ s1 s3, ctSet ct x S = some s1 ∧ te s1 = .ok (f x) s3 ∧ (f x).stable = true ∧ s3.wipe vs = S) → lcLoop ct vs mYes te xs acc S = .ok (acc ++ xs.map f) S
  | [], acc, _, _ => by simp [lcLoop]
  | x :: xs, acc, hl, hx => by
    obtain ⟨s1, s3, e1, e2, e3, e4⟩ := hx x List.mem_cons_self
    rw [List.length_cons] at hl
    have ih := lc_map S f xs (acc ++ [f x]) (by simp; omega) fun z hz => hx z (List.mem_cons_of_mem _ hz)
    unfold lcLoop
    rw [e1]
    show (if true = true then _ else _) = _
    rw [if_pos rfl, e2]
    show (if _ then _ else _) = _
    rw [if_pos ⟨e3, by rw [line_num]; omega⟩, e4, ih]
    simp
@[simp] theorem wipe_mk : Sm.wipe ⟨σ, h, p⟩ vs = ⟨wipeL σ vs, h, p⟩ := Eq.trans rfl rfl
@[simp] theorem wipeL_nil : wipeL σ [] = σ := Eq.trans rfl rfl
@[simp] theorem wipeL_cons : wipeL σ (i :: vs) = (wipeL σ vs).set i none := Eq.trans rfl rfl
@[simp] theorem backTo_mk {h2 : List MO} {p2 : List Nat} : Sm.backTo ⟨l0, h, p⟩ ⟨l, h2, p2⟩ vs = ⟨backL l0 l vs, h2, p2⟩ := Eq.trans rfl rfl
@[simp] theorem backL_nil : backL l0 l [] = l := Eq.trans rfl rfl
def bkO : Option (Option MV) → Option MV
  | some o => o
  | none => none
@[simp] theorem bkO_some {o : Option MV} : bkO (some o) = o := Eq.trans rfl rfl
@[simp] theorem backL_cons : backL l0 l (i :: vs) = (backL l0 l vs).set i (bkO l0[i]?) := by
  show (backL l0 l vs).set i _ = _
  unfold bkO
  rfl
@[simp] theorem ctSet_one : ctSet (.one i) x ⟨σ, h, p⟩ = if x.stable = true ∧ i ∉ p then some ⟨σ.set i (some x), h, p⟩ else none := Eq.trans rfl rfl
@[simp] theorem ctSet_tup {is : List Nat} : ctSet (.tup is) (.tup xs) s = putAll is xs s := Eq.trans rfl rfl
@[simp] theorem putAll_nil : putAll [] [] s = some s := Eq.trans rfl rfl
@[simp] theorem putAll_cons {is : List Nat} : putAll (i :: is) (x :: xs) ⟨σ, h, p⟩ = if i ∉ p then putAll is xs ⟨σ.set i (some x), h, p⟩ else none := Eq.trans rfl rfl
def lcO : Option (Option MV) → Bool
  | some (some v) => v.stable
  | _ => true
@[simp] theorem lcOk_nil : lcOk s [] = true := Eq.trans rfl rfl
@[simp] theorem lcOk_cons : lcOk ⟨σ, h, p⟩ (i :: vs) = (lcO σ[i]? && decide (i ∉ p) && lcOk ⟨σ, h, p⟩ vs) := by
  unfold lcOk lcO
  rfl
@[simp] theorem lcO_v : lcO (some (some x)) = x.stable := Eq.trans rfl rfl
@[simp] theorem lcO_n : lcO (some none) = true := Eq.trans rfl rfl
/-! targets of several names -/
@[simp] theorem run_tgTup {n : Nat} {t : List MV → MS} : tgTup n t (.tup xs) s = if xs.length = n then t xs s else .stuck := Eq.trans rfl rfl
def Out.tgn (o : Out) (b : MS) : Out := match o with
  | .nx s => b s
  | _ => .stuck
@[simp] theorem tgn_nx {b : MS} : (Out.nx s).tgn b = b s := Eq.trans rfl rfl
@[simp] theorem run_tgCons {t1 : MV → MS} {t : List MV → MS} : tgCons t1 t (x :: xs) s = (t1 x s).tgn (t xs) := Eq.trans rfl rfl
@[simp] theorem run_tgNil : tgNil [] s = .nx s := Eq.trans rfl rfl
/-! isinstance -/
@[simp] theorem run_isi {n : String} : gIsiL n [x, .ty n] s = gIsi n x s := by
  show (if n = n then gIsi n x else fun _ => .stuck) s = _
  rw [if_pos rfl]
@[simp] theorem isi_tup_tup : gIsi "tuple" (.tup xs) s = .ok (.bl true) s := by
  show (match isiS "tuple" "tuple" with | some b => Res.ok (MV.bl b) s | none => Res.stuck) = _
  rfl
@[simp] theorem isi_int_tup {m : Int} : gIsi "tuple" (.int m) s = .ok (.bl false) s := by
  show (match isiS "int" "tuple" with | some b => Res.ok (MV.bl b) s | none => Res.stuck) = _
  rfl
@[simp] theorem isi_int_bool {m : Int} : gIsi "bool" (.int m) s = .ok (.bl false) s := by
  show (match isiS "int" "bool" with | some b => Res.ok (MV.bl b) s | none => Res.stuck) = _
  rfl
@[simp] theorem isi_int_int {m : Int} : gIsi "int" (.int m) s = .ok (.bl true) s := by
  show (match isiS "int" "int" with | some b => Res.ok (MV.bl b) s | none => Res.stuck) = _
  rfl
@[simp] theorem run_LZ {ys : List MV} : gLZ (.tup xs) (.tup ys) s = .ok (.lst (zipP xs ys)) s := Eq.trans rfl rfl
@[simp] theorem run_repT {k : Int} : oRepT (.tup xs) (.int k) s = if -1000 ≤ k ∧ k ≤ 1000 ∧ xs.length ≤ 1000 then .ok (.tup (List.replicate k.toNat xs).flatten) s else .stuck := Eq.trans rfl rfl
/-! sums, the greatest, places -/
theorem run_sum {ns : List Int} (e : seqA s x = some (ns.map MV.int)) : gSum x s = .ok (.int ns.sum) s := by
  unfold gSum
  rw [e]
  dsimp only
  rw [intsOf_map]
theorem run_maxL {ns : List Int} (e : seqL s x = some (ns.map MV.int)) (hn : ns ≠ []) : gMaxL x s = .ok (.int (maxI ns)) s := by
  unfold gMaxL
  rw [e]
  dsimp only
  rw [intsOf_map]
  cases ns with
  | nil => exact absurd rfl hn
  | cons _ _ => rfl
theorem run_idx {ns : List Int} {n : Int} (e : seqL s x = some (ns.map MV.int)) (hn : n ∈ ns) : gIdx x [.int n] s = .ok (.int (ns.idxOf n : Nat)) s := by
  unfold gIdx
  dsimp only
  rw [e]
  dsimp only
  rw [intsOf_map]
  dsimp only
  rw [if_pos hn]
end
end Mir

set_option maxHeartbeats 4000000
namespace K17
open PySem PySem.Spec L2 Mir
def top (i : Nat) : Stmt := PySem.Challenge.pw_fairbyheads_k17_vectors.main.body.getD i (.Pass ⟨0, 0, 0, 0⟩)
variable {P : Program} {w : World} {K : PySem.W.Frag} {mg : Str → Option Value} {base : Heap} {ca : Str → Option Addr}
abbrev s_product_of : Stmt := top 1
def t_product_of_1 : MV → MS := tgName 2
def l_product_of_1 : MS := mAug 1 iMulC (mVar 2)
def b_product_of : MS := mSeq (mSet 1 (mC (.int 1))) (mSeq (mFor (mIter (mVar 0)) t_product_of_1 l_product_of_1) (mRet (mVar 1)))
def m_product_of : Fn := mkFn 3 [0] b_product_of
theorem sc_product_of : FnScope ["numbers", "found", "number"] ["numbers"] (defScope s_product_of) := ⟨rfl, rfl, rfl, by decide +kernel, rfl, by decide +kernel, by decide +kernel⟩
theorem ok_product_of {f : Addr} {fd : FuncData} (F : FunD K "product_of" "product_of" (defArgs s_product_of) (defBody s_product_of) (defScope s_product_of) [] [] f fd)  : FnOk P w K mg base (L2.CX P w) 1 f fd ["numbers"] (spM K ca 1 m_product_of) :=
  have S := sc_product_of
  fn_okM (N := ["numbers", "found", "number"]) (pins := [0]) (b := b_product_of) F S (by decide) (by decide) fun cdv A outer s H E hr => pss_consM (ps_setM S.nd (i := 1) rfl (Or.inl rfl) pe_intM) (pss_consM (ps_forM hp_of rfl (pi_iterM rfl (pe_varM (i := 0))) (pg_nameM S.nd (i := 2) rfl (Or.inl rfl)) (pss_oneM (ps_augM S.nd (i := 1) rfl (Or.inl rfl) (pe_varM (i := 2)) iop_mul ok_mulC))) (pss_oneM (ps_retM (pe_varM (i := 1)))))
abbrev s_lots_number : Stmt := top 3
def t_lots_number_1 : MV → MS := tgName 3
def l_lots_number_1 : MS := mSet 2 (m2 iDiv (m2 iMul (mVar 2) (m2 iSub (mVar 0) (mVar 3))) (m2 oAdd (mVar 3) (mC (.int 1))))
def b_lots_number : MS := mSeq (mIfS (tNotM (mT (mChain bLe bLe (mC (.int 0)) (mVar 1) (mVar 0)))) (mRet (mC (.int 0))) mNext) (mSeq (mSet 2 (mC (.int 1))) (mSeq (mFor (mItL gRange1 (mCons (mL (onL2 gMin2) (mCons (mVar 1) (mCons (m2 iSub (mVar 0) (mVar 1)) mNil))) mNil)) t_lots_number_1 l_lots_number_1) (mRet (mVar 2))))
def m_lots_number : Fn := mkFn 4 [0, 1] b_lots_number
theorem sc_lots_number : FnScope ["many", "some", "found", "at"] ["many", "some"] (defScope s_lots_number) := ⟨rfl, rfl, rfl, by decide +kernel, rfl, by decide +kernel, by decide +kernel⟩
theorem ok_lots_number {f : Addr} {fd : FuncData} (F : FunD K "lots_number" "lots_number" (defArgs s_lots_number) (defBody s_lots_number) (defScope s_lots_number) [] [] f fd) (z_range : mg "range" = none) (z_min : mg "min" = none) : FnOk P w K mg base (L2.CX P w) 1 f fd ["many", "some"] (spM K ca 2 m_lots_number) :=
  have S := sc_lots_number
  fn_okM (N := ["many", "some", "found", "at"]) (pins := [0, 1]) (b := b_lots_number) F S (by decide) (by decide) fun cdv A outer s H E hr => pss_consM (ps_ifM (pt_notM (pt_chainM oc_le oc_le pe_intM (pe_varM (i := 1)) (pe_varM (i := 0)))) (pss_oneM (ps_retM pe_intM)) pss_nilM) (pss_consM (ps_setM S.nd (i := 2) rfl (Or.inl rfl) pe_intM) (pss_consM (ps_forM hp_of rfl (pi_range1M rfl z_range (pa_consM (pe_min2M rfl rfl z_min (pa_consM (pe_varM (i := 1)) (pa_consM (pe_subM (pe_varM (i := 0)) (pe_varM (i := 1))) pa_nilM)) rfl rfl) pa_nilM)) (pg_nameM S.nd (i := 3) rfl (Or.inl rfl)) (pss_oneM (ps_setM S.nd (i := 2) rfl (Or.inl rfl) (pe_divM (pe_mulM (pe_varM (i := 2)) (pe_subM (pe_varM (i := 0)) (pe_varM (i := 3)))) (pe_addM rfl (pe_varM (i := 3)) pe_intM))))) (pss_oneM (ps_retM (pe_varM (i := 2))))))
abbrev s_vectors_of : Stmt := top 4
def e_vectors_of_1 : M MV := m2 oAdd (mVar 4) (mL gTupM (mCons (mVar 5) mNil))
def t_vectors_of_1 : MV → MS := tgName 4
def l_vectors_of_1 : MS := mExpr (mM isL gExt (mVar 3) (mCons (mLc (mItL gRange1 (mCons (m2 oAdd (mVar 2) (mC (.int 1))) mNil)) (.one 5) [5] mYes e_vectors_of_1) mNil))
def t_vectors_of_2 : MV → MS := tgName 2
def l_vectors_of_2 : MS := mSeq (mSet 3 (mL gLstM mNil)) (mSeq (mFor (mIter (mVar 1)) t_vectors_of_1 l_vectors_of_1) (mSet 1 (mMove 3)))
def b_vectors_of : MS := mSeq (mSet 1 (mL gLstM (mCons (mL gTupM mNil) mNil))) (mSeq (mFor (mIter (mVar 0)) t_vectors_of_2 l_vectors_of_2) (mRet (mL (onL gTuple) (mCons (mVar 1) mNil))))
def m_vectors_of : Fn := mkFn 6 [0] b_vectors_of
theorem sc_vectors_of : FnScope ["lengths", "found", "length", "longer", "vector", "number"] ["lengths"] (defScope s_vectors_of) := ⟨rfl, rfl, rfl, by decide +kernel, rfl, by decide +kernel, by decide +kernel⟩
theorem ok_vectors_of {f : Addr} {fd : FuncData} (F : FunD K "vectors_of" "vectors_of" (defArgs s_vectors_of) (defBody s_vectors_of) (defScope s_vectors_of) [] [] f fd) (z_range : mg "range" = none) (z_tuple : mg "tuple" = none) : FnOk P w K mg base (L2.CX P w) 1 f fd ["lengths"] (spM K ca 1 m_vectors_of) :=
  have S := sc_vectors_of
  fn_okM (N := ["lengths", "found", "length", "longer", "vector", "number"]) (pins := [0]) (b := b_vectors_of) F S (by decide) (by decide) fun cdv A outer s H E hr => pss_consM (ps_setM S.nd (i := 1) rfl (Or.inl rfl) (pe_lstM (pa_consM (pe_tupM pa_nilM) pa_nilM))) (pss_consM (ps_forM hp_of rfl (pi_iterM rfl (pe_varM (i := 0))) (pg_nameM S.nd (i := 2) rfl (Or.inl rfl)) (pss_consM (ps_setM S.nd (i := 3) rfl (Or.inl rfl) (pe_lstM pa_nilM)) (pss_consM (ps_forM hp_of rfl (pi_iterM rfl (pe_varM (i := 1))) (pg_nameM S.nd (i := 4) rfl (Or.inr rfl)) (pss_oneM (ps_exprM (pe_mM rfl ty_list ok_ext PySem.F.plainAttrs_list PySem.F.slot_list_extend PySem.F.type_list_extend mt_extend (pe_varM (i := 3)) (pa_consM (pe_lcM (own := [(("number" : Str), 5)]) rfl S.nd (by decide) (pi_range1M rfl z_range (pa_consM (pe_addM rfl (pe_varM (i := 2)) pe_intM) pa_nilM)) (blkOk_by (by rfl)) (fun _ _ _ _ _ => pg_ct1 S.nd rfl (by first | exact Or.inl rfl | exact Or.inr rfl)) (fun _ _ _ _ _ => pts_nilM) (fun _ _ _ _ _ => pe_addM rfl (pe_varM (i := 4)) (pe_tupM (pa_consM (pe_varM (i := 5)) pa_nilM)))) pa_nilM))))) (pss_oneM (ps_setM S.nd (i := 1) rfl (Or.inl rfl) (pe_moveM (i := 3))))))) (pss_oneM (ps_retM (pe_tupleM rfl rfl rfl z_tuple (pa_consM (pe_varM (i := 1)) pa_nilM)))))
abbrev s_vector_place : Stmt := top 6
def t_vector_place_1 : MV → MS := tgTup 2 (tgCons (tgName 3) (tgCons (tgName 4) tgNil))
def l_vector_place_1 : MS := mSet 2 (m2 oAdd (m2 iMul (mVar 2) (m2 oAdd (mVar 3) (mC (.int 1)))) (mVar 4))
def b_vector_place : MS := mSeq (mSet 2 (mC (.int 0))) (mSeq (mFor (mItL gZip (mCons (mVar 0) (mCons (mVar 1) mNil))) t_vector_place_1 l_vector_place_1) (mRet (mVar 2)))
def m_vector_place : Fn := mkFn 5 [0, 1] b_vector_place
theorem sc_vector_place : FnScope ["lengths", "vector", "place", "length", "number"] ["lengths", "vector"] (defScope s_vector_place) := ⟨rfl, rfl, rfl, by decide +kernel, rfl, by decide +kernel, by decide +kernel⟩
theorem ok_vector_place {f : Addr} {fd : FuncData} (F : FunD K "vector_place" "vector_place" (defArgs s_vector_place) (defBody s_vector_place) (defScope s_vector_place) [] [] f fd) (z_zip : mg "zip" = none) : FnOk P w K mg base (L2.CX P w) 1 f fd ["lengths", "vector"] (spM K ca 2 m_vector_place) :=
  have S := sc_vector_place
  fn_okM (N := ["lengths", "vector", "place", "length", "number"]) (pins := [0, 1]) (b := b_vector_place) F S (by decide) (by decide) fun cdv A outer s H E hr => pss_consM (ps_setM S.nd (i := 2) rfl (Or.inl rfl) pe_intM) (pss_consM (ps_forM hp_of rfl (pi_zipM rfl rfl z_zip (pa_consM (pe_varM (i := 0)) (pa_consM (pe_varM (i := 1)) pa_nilM))) (pg_tupM rfl rfl (pgs_consM (pg_nameM S.nd (i := 3) rfl (Or.inl rfl)) (pgs_consM (pg_nameM S.nd (i := 4) rfl (Or.inl rfl)) pgs_nilM))) (pss_oneM (ps_setM S.nd (i := 2) rfl (Or.inl rfl) (pe_addM rfl (pe_mulM (pe_varM (i := 2)) (pe_addM rfl (pe_varM (i := 3)) pe_intM)) (pe_varM (i := 4)))))) (pss_oneM (ps_retM (pe_varM (i := 2)))))
abbrev s__law_bag : Stmt := top 8
def t__law_bag_1 : MV → MS := tgName 2
def l__law_bag_1 : MS := mSeq (mSet 3 (m2 iMod (mL (onL gAbs) (mCons (mL (onL gInt) (mCons (mVar 2) mNil)) mNil)) (m2 iShl (mC (.int 1)) (mC (.int 1900))))) (mSeq (mAsgT (m2 iMod (mL (onL gInt) (mCons (m2 oAdd (m2 oAdd (m2 iMul (m2 oIx (mVar 1) (mC (.int 1))) (mC (.int 48271))) (m2 iMod (mVar 3) (mC (.int 1000003)))) (mC (.int 11))) mNil)) (mC (.int 2147483647))) (tgSub (mVar 1) (mC (.int 1)))) (mIfS (mT (m2 iGe (mVar 3) (m2 iPow (mC (.int 10)) (mC (.int 15))))) (mExpr (mM isL gApp (m2 oIx (mVar 1) (mC (.int 0))) (mCons (mVar 3) mNil))) mNext))
def b__law_bag : MS := mSeq (mSet 1 (mL gLstM (mCons (m1 gBox (mL gLstM mNil)) (mCons (mC (.int 17011)) (mCons (mC (.int 0)) mNil))))) (mSeq (mFor (mIter (mSl (mVar 0) none (some (mC (.int 60))))) t__law_bag_1 l__law_bag_1) (mSeq (mAsgT (m2 iDiv (m2 oIx (mVar 1) (mC (.int 1))) (mC (.int 3))) (tgSub (mVar 1) (mC (.int 2)))) (mRet (mMove 1))))
def m__law_bag : Fn := mkFn 4 [0] b__law_bag
theorem sc__law_bag : FnScope ["script", "bag", "cell", "size"] ["script"] (defScope s__law_bag) := ⟨rfl, rfl, rfl, by decide +kernel, rfl, by decide +kernel, by decide +kernel⟩
theorem ok__law_bag {f : Addr} {fd : FuncData} (F : FunD K "_law_bag" "_law_bag" (defArgs s__law_bag) (defBody s__law_bag) (defScope s__law_bag) [] [] f fd) (z_abs : mg "abs" = none) (z_int : mg "int" = none) : FnOk P w K mg base (L2.CX P w) 1 f fd ["script"] (spM K ca 1 m__law_bag) :=
  have S := sc__law_bag
  fn_okM (N := ["script", "bag", "cell", "size"]) (pins := [0]) (b := b__law_bag) F S (by decide) (by decide) fun cdv A outer s H E hr => pss_consM (ps_setM S.nd (i := 1) rfl (Or.inl rfl) (pe_lstM (pa_consM (pe_boxM (pe_lstM pa_nilM)) (pa_consM pe_intM (pa_consM pe_intM pa_nilM))))) (pss_consM (ps_forM hp_of rfl (pi_iterM rfl (pe_slM rfl (pe_varM (i := 0)) po_noneM (po_someM pe_intM))) (pg_nameM S.nd (i := 2) rfl (Or.inl rfl)) (pss_consM (ps_setM S.nd (i := 3) rfl (Or.inl rfl) (pe_modM (pe_absM rfl rfl z_abs (pa_consM (pe_intcM rfl rfl z_int (pa_consM (pe_varM (i := 2)) pa_nilM)) pa_nilM)) (pe_shlM pe_intM pe_intM))) (pss_consM (ps_asgM (pe_modM (pe_intcM rfl rfl z_int (pa_consM (pe_addM rfl (pe_addM rfl (pe_mulM (pe_ixM rfl (pe_varM (i := 1)) pe_intM) pe_intM) (pe_modM (pe_varM (i := 3)) pe_intM)) pe_intM) pa_nilM)) pe_intM) (pg_subM (pe_varM (i := 1)) pe_intM)) (pss_oneM (ps_ifM (pt_geM (pe_varM (i := 3)) (pe_powM pe_intM pe_intM)) (pss_oneM (ps_exprM (pe_mM rfl ty_list ok_app PySem.F.plainAttrs_list PySem.F.slot_list_append PySem.F.type_list_append mt_append (pe_ixM rfl (pe_varM (i := 1)) pe_intM) (pa_consM (pe_varM (i := 3)) pa_nilM)))) pss_nilM))))) (pss_consM (ps_asgM (pe_divM (pe_ixM rfl (pe_varM (i := 1)) pe_intM) pe_intM) (pg_subM (pe_varM (i := 1)) pe_intM)) (pss_oneM (ps_retM (pe_moveM (i := 1))))))
abbrev s__law_pull : Stmt := top 9
def u__law_pull_1 : M Bool := mTru (m2 oIx (mVar 0) (mC (.int 0)))
def l__law_pull_1 : MS := mSeq (mSet 3 (m2 oIx (m2 oIx (mVar 0) (mC (.int 0))) (mC (.int 0)))) (mSeq (mIfS (mT (m2 iGt (mVar 3) (mC (.int 0)))) (mSeq (mAsgT (m2 iDiv (mVar 3) (mVar 1)) (tgSub (m2 oIx (mVar 0) (mC (.int 0))) (mC (.int 0)))) (mRet (m2 iMod (mL (onL gInt) (mCons (mVar 3) mNil)) (mVar 1)))) mNext) (mExpr (mM isL gPopAt (m2 oIx (mVar 0) (mC (.int 0))) (mCons (mC (.int 0)) mNil))))
def b__law_pull : MS := mSeq (mWhile u__law_pull_1 l__law_pull_1) (mSeq (mAsgT (m2 iMod (mL (onL gInt) (mCons (m2 oAdd (m2 iMul (m2 oIx (mVar 0) (mC (.int 1))) (mC (.int 39373))) (mC (.int 101))) mNil)) (mC (.int 2147483647))) (tgSub (mVar 0) (mC (.int 1)))) (mSeq (mSet 4 (mIf (mT (m2 iGt (mVar 2) (mC (.int 0)))) (m2 iMod (mL (onL gInt) (mCons (m2 iDiv (m2 oIx (mVar 0) (mC (.int 2))) (m2 oAdd (m2 iMul (mVar 2) (mC (.int 4))) (mC (.int 1)))) mNil)) (mC (.int 9))) (mC (.int 8)))) (mRet (mIf (mT (m2 iLt (mVar 4) (mC (.int 2)))) (m2 oIx (mL gLstM (mCons (mC (.int 0)) (mCons (m2 iSub (mVar 1) (mC (.int 1))) mNil))) (mVar 4)) (m2 iMod (mL (onL gInt) (mCons (m2 iDiv (m2 oIx (mVar 0) (mC (.int 1))) (mC (.int 811))) mNil)) (mVar 1))))))
def m__law_pull : Fn := mkFn 5 [0, 1, 2] b__law_pull
theorem sc__law_pull : FnScope ["bag", "many", "place", "size", "way"] ["bag", "many", "place"] (defScope s__law_pull) := ⟨rfl, rfl, rfl, by decide +kernel, rfl, by decide +kernel, by decide +kernel⟩
theorem ok__law_pull {f : Addr} {fd : FuncData} (F : FunD K "_law_pull" "_law_pull" (defArgs s__law_pull) (defBody s__law_pull) (defScope s__law_pull) [.int 0] [] f fd) (z_int : mg "int" = none) : FnOk P w K mg base (L2.CX P w) 1 f fd ["bag", "many", "place"] (spM K ca 3 m__law_pull) :=
  have S := sc__law_pull
  fn_okM (N := ["bag", "many", "place", "size", "way"]) (pins := [0, 1, 2]) (b := b__law_pull) F S (by decide) (by decide) fun cdv A outer s H E hr => pss_consM (ps_whileM hp_of (pt_truM rfl (pe_ixM rfl (pe_varM (i := 0)) pe_intM)) (pss_consM (ps_setM S.nd (i := 3) rfl (Or.inl rfl) (pe_ixM rfl (pe_ixM rfl (pe_varM (i := 0)) pe_intM) pe_intM)) (pss_consM (ps_ifM (pt_gtM (pe_varM (i := 3)) pe_intM) (pss_consM (ps_asgM (pe_divM (pe_varM (i := 3)) (pe_varM (i := 1))) (pg_subM (pe_ixM rfl (pe_varM (i := 0)) pe_intM) pe_intM)) (pss_oneM (ps_retM (pe_modM (pe_intcM rfl rfl z_int (pa_consM (pe_varM (i := 3)) pa_nilM)) (pe_varM (i := 1)))))) pss_nilM) (pss_oneM (ps_exprM (pe_mM rfl ty_list ok_popAt PySem.F.plainAttrs_list PySem.F.slot_list_pop PySem.F.type_list_pop mt_popAt (pe_ixM rfl (pe_varM (i := 0)) pe_intM) (pa_consM pe_intM pa_nilM))))))) (pss_consM (ps_asgM (pe_modM (pe_intcM rfl rfl z_int (pa_consM (pe_addM rfl (pe_mulM (pe_ixM rfl (pe_varM (i := 0)) pe_intM) pe_intM) pe_intM) pa_nilM)) pe_intM) (pg_subM (pe_varM (i := 0)) pe_intM)) (pss_consM (ps_setM S.nd (i := 4) rfl (Or.inl rfl) (pe_ifM (pt_gtM (pe_varM (i := 2)) pe_intM) (pe_modM (pe_intcM rfl rfl z_int (pa_consM (pe_divM (pe_ixM rfl (pe_varM (i := 0)) pe_intM) (pe_addM rfl (pe_mulM (pe_varM (i := 2)) pe_intM) pe_intM)) pa_nilM)) pe_intM) pe_intM)) (pss_oneM (ps_retM (pe_ifM (pt_ltM (pe_varM (i := 4)) pe_intM) (pe_ixM rfl (pe_lstM (pa_consM pe_intM (pa_consM (pe_subM (pe_varM (i := 1)) pe_intM) pa_nilM))) (pe_varM (i := 4))) (pe_modM (pe_intcM rfl rfl z_int (pa_consM (pe_divM (pe_ixM rfl (pe_varM (i := 0)) pe_intM) pe_intM) pa_nilM)) (pe_varM (i := 1))))))))
abbrev s__law_same : Stmt := top 10
def u__law_same_1 : M Bool := mTru (mVar 2)
def l__law_same_1 : MS := mSeq (mAsgT (mM isL gPop (mVar 2) mNil) (tgTup 2 (tgCons (tgName 3) (tgCons (tgName 4) tgNil)))) (mIfS (mTru (mL (gIsiL "tuple") (mCons (mVar 4) (mCons (mC (.ty "tuple")) mNil)))) (mSeq (mIfS (tOrM (tNotM (mTru (mL (gIsiL "tuple") (mCons (mVar 3) (mCons (mC (.ty "tuple")) mNil))))) (mT (m2 oNe (mL (onL gLen) (mCons (mVar 3) mNil)) (mL (onL gLen) (mCons (mVar 4) mNil))))) (mRet (mC (.bl false))) mNext) (mExpr (mM isL gExt (mVar 2) (mCons (mL (onL2 gLZ) (mCons (mVar 3) (mCons (mVar 4) mNil))) mNil)))) (mIfS (tOrM (mTru (mL (gIsiL "bool") (mCons (mVar 3) (mCons (mC (.ty "bool")) mNil)))) (tOrM (tNotM (mTru (mL (gIsiL "int") (mCons (mVar 3) (mCons (mC (.ty "int")) mNil))))) (mT (m2 oNe (mVar 3) (mVar 4))))) (mRet (mC (.bl false))) mNext))
def b__law_same : MS := mSeq (mSet 2 (mL gLstM (mCons (mL gTupM (mCons (mVar 0) (mCons (mVar 1) mNil))) mNil))) (mSeq (mWhile u__law_same_1 l__law_same_1) (mRet (mC (.bl true))))
def m__law_same : Fn := mkFn 5 [0, 1] b__law_same
theorem sc__law_same : FnScope ["told", "due", "waiting", "one", "other"] ["told", "due"] (defScope s__law_same) := ⟨rfl, rfl, rfl, by decide +kernel, rfl, by decide +kernel, by decide +kernel⟩
theorem ok__law_same {f : Addr} {fd : FuncData} (F : FunD K "_law_same" "_law_same" (defArgs s__law_same) (defBody s__law_same) (defScope s__law_same) [] [] f fd) (z_isinstance : mg "isinstance" = none) (z_tuple : mg "tuple" = none) (z_len : mg "len" = none) (z_zip : mg "zip" = none) (z_list : mg "list" = none) (z_int : mg "int" = none) (z_bool : mg "bool" = none) : FnOk P w K mg base (L2.CX P w) 1 f fd ["told", "due"] (spM K ca 2 m__law_same) :=
  have S := sc__law_same
  fn_okM (N := ["told", "due", "waiting", "one", "other"]) (pins := [0, 1]) (b := b__law_same) F S (by decide) (by decide) fun cdv A outer s H E hr => pss_consM (ps_setM S.nd (i := 2) rfl (Or.inl rfl) (pe_lstM (pa_consM (pe_tupM (pa_consM (pe_varM (i := 0)) (pa_consM (pe_varM (i := 1)) pa_nilM))) pa_nilM))) (pss_consM (ps_whileM hp_of (pt_truM rfl (pe_varM (i := 2))) (pss_consM (ps_asgM (pe_m0M rfl ty_list ok_pop PySem.F.plainAttrs_list PySem.F.slot_list_pop PySem.F.type_list_pop mt_pop (pe_varM (i := 2))) (pg_tupM rfl rfl (pgs_consM (pg_nameM S.nd (i := 3) rfl (Or.inl rfl)) (pgs_consM (pg_nameM S.nd (i := 4) rfl (Or.inl rfl)) pgs_nilM)))) (pss_oneM (ps_ifM (pt_truM rfl (pe_isiM rfl rfl z_isinstance (pa_consM (pe_varM (i := 4)) (pa_consM (pe_tyNM (T := "tuple") rfl z_tuple (by decide +kernel)) pa_nilM)))) (pss_consM (ps_ifM (pt_wM (pw_orM (pt_notM (pt_truM rfl (pe_isiM rfl rfl z_isinstance (pa_consM (pe_varM (i := 3)) (pa_consM (pe_tyNM (T := "tuple") rfl z_tuple (by decide +kernel)) pa_nilM))))) (pw_or1M (pt_neM hr rfl (pe_lenM rfl rfl z_len (pa_consM (pe_varM (i := 3)) pa_nilM)) (pe_lenM rfl rfl z_len (pa_consM (pe_varM (i := 4)) pa_nilM)))))) (pss_oneM (ps_retM pe_blM)) pss_nilM) (pss_oneM (ps_exprM (pe_mM rfl ty_list ok_ext PySem.F.plainAttrs_list PySem.F.slot_list_extend PySem.F.type_list_extend mt_extend (pe_varM (i := 2)) (pa_consM (pe_listZipM rfl rfl rfl z_zip rfl z_list (pa_consM (pe_varM (i := 3)) (pa_consM (pe_varM (i := 4)) pa_nilM))) pa_nilM))))) (pss_oneM (ps_ifM (pt_wM (pw_orM (pt_truM rfl (pe_isiM rfl rfl z_isinstance (pa_consM (pe_varM (i := 3)) (pa_consM (pe_tyNM (T := "bool") rfl z_bool (by decide +kernel)) pa_nilM)))) (pw_orM (pt_notM (pt_truM rfl (pe_isiM rfl rfl z_isinstance (pa_consM (pe_varM (i := 3)) (pa_consM (pe_tyNM (T := "int") rfl z_int (by decide +kernel)) pa_nilM))))) (pw_or1M (pt_neM hr rfl (pe_varM (i := 3)) (pe_varM (i := 4))))))) (pss_oneM (ps_retM pe_blM)) pss_nilM)))))) (pss_oneM (ps_retM pe_blM)))
abbrev s__law_next : Stmt := top 11
def t__law_next_1 : MV → MS := tgName 3
def l__law_next_1 : MS := mSeq (mIfS (mT (m2 iLt (m2 oIx (mVar 2) (mVar 3)) (m2 oIx (mVar 0) (mVar 3)))) (mSeq (mAsgT (m2 oAdd (m2 oIx (mVar 2) (mVar 3)) (mC (.int 1))) (tgSub (mVar 2) (mVar 3))) (mRet (mL (onL gTuple) (mCons (mVar 2) mNil)))) mNext) (mAsgT (mC (.int 0)) (tgSub (mVar 2) (mVar 3)))
def b__law_next : MS := mSeq (mSet 2 (mL (onL gList) (mCons (mVar 1) mNil))) (mSeq (mFor (mItL gRangeD (mCons (m2 iSub (mL (onL gLen) (mCons (mVar 2) mNil)) (mC (.int 1))) (mCons (m1 iNeg (mC (.int 1))) (mCons (m1 iNeg (mC (.int 1))) mNil)))) t__law_next_1 l__law_next_1) (mRet (mC .non)))
def m__law_next : Fn := mkFn 4 [0, 1] b__law_next
theorem sc__law_next : FnScope ["lengths", "vector", "row", "at"] ["lengths", "vector"] (defScope s__law_next) := ⟨rfl, rfl, rfl, by decide +kernel, rfl, by decide +kernel, by decide +kernel⟩
theorem ok__law_next {f : Addr} {fd : FuncData} (F : FunD K "_law_next" "_law_next" (defArgs s__law_next) (defBody s__law_next) (defScope s__law_next) [] [] f fd) (z_list : mg "list" = none) (z_range : mg "range" = none) (z_len : mg "len" = none) (z_tuple : mg "tuple" = none) : FnOk P w K mg base (L2.CX P w) 1 f fd ["lengths", "vector"] (spM K ca 2 m__law_next) :=
  have S := sc__law_next
  fn_okM (N := ["lengths", "vector", "row", "at"]) (pins := [0, 1]) (b := b__law_next) F S (by decide) (by decide) fun cdv A outer s H E hr => pss_consM (ps_setM S.nd (i := 2) rfl (Or.inl rfl) (pe_listM rfl rfl rfl z_list (pa_consM (pe_varM (i := 1)) pa_nilM))) (pss_consM (ps_forM hp_of rfl (pi_rangeDM rfl z_range (pa_consM (pe_subM (pe_lenM rfl rfl z_len (pa_consM (pe_varM (i := 2)) pa_nilM)) pe_intM) (pa_consM (pe_negM pe_intM) (pa_consM (pe_negM pe_intM) pa_nilM)))) (pg_nameM S.nd (i := 3) rfl (Or.inl rfl)) (pss_consM (ps_ifM (pt_ltM (pe_ixM rfl (pe_varM (i := 2)) (pe_varM (i := 3))) (pe_ixM rfl (pe_varM (i := 0)) (pe_varM (i := 3)))) (pss_consM (ps_asgM (pe_addM rfl (pe_ixM rfl (pe_varM (i := 2)) (pe_varM (i := 3))) pe_intM) (pg_subM (pe_varM (i := 2)) (pe_varM (i := 3)))) (pss_oneM (ps_retM (pe_tupleM rfl rfl rfl z_tuple (pa_consM (pe_varM (i := 2)) pa_nilM))))) pss_nilM) (pss_oneM (ps_asgM pe_intM (pg_subM (pe_varM (i := 2)) (pe_varM (i := 3))))))) (pss_oneM (ps_retM pe_nonM)))
abbrev s__law_triangle : Stmt := top 13
def e__law_triangle_1 : M MV := m2 oAdd (m2 oIx (mVar 3) (mVar 4)) (m2 oIx (mVar 3) (m2 oAdd (mVar 4) (mC (.int 1))))
def t__law_triangle_1 : MV → MS := tgName 2
def l__law_triangle_1 : MS := mSeq (mSet 3 (m2 oAdd (m2 oAdd (mL gLstM (mCons (mC (.int 0)) mNil)) (m2 oIx (mVar 1) (m1 iNeg (mC (.int 1))))) (mL gLstM (mCons (mC (.int 0)) mNil)))) (mExpr (mM isL gApp (mVar 1) (mCons (m1 gFrz (mLc (mItL gRange1 (mCons (m2 iSub (mL (onL gLen) (mCons (mVar 3) mNil)) (mC (.int 1))) mNil)) (.one 4) [4] mYes e__law_triangle_1)) mNil)))
def b__law_triangle : MS := mSeq (mSet 1 (mL gLstM (mCons (m1 gFrz (mL gLstM (mCons (mC (.int 1)) mNil))) mNil))) (mSeq (mFor (mItL gRange1 (mCons (mVar 0) mNil)) t__law_triangle_1 l__law_triangle_1) (mRet (mMove 1)))
def m__law_triangle : Fn := mkFn 5 [0] b__law_triangle
theorem sc__law_triangle : FnScope ["most", "rows", "turn", "ahead", "at"] ["most"] (defScope s__law_triangle) := ⟨rfl, rfl, rfl, by decide +kernel, rfl, by decide +kernel, by decide +kernel⟩
theorem ok__law_triangle {f : Addr} {fd : FuncData} (F : FunD K "_law_triangle" "_law_triangle" (defArgs s__law_triangle) (defBody s__law_triangle) (defScope s__law_triangle) [] [] f fd) (z_range : mg "range" = none) (z_len : mg "len" = none) : FnOk P w K mg base (L2.CX P w) 1 f fd ["most"] (spM K ca 1 m__law_triangle) :=
  have S := sc__law_triangle
  fn_okM (N := ["most", "rows", "turn", "ahead", "at"]) (pins := [0]) (b := b__law_triangle) F S (by decide) (by decide) fun cdv A outer s H E hr => pss_consM (ps_setM S.nd (i := 1) rfl (Or.inl rfl) (pe_lstM (pa_consM (pe_frzM (pe_lstM (pa_consM pe_intM pa_nilM))) pa_nilM))) (pss_consM (ps_forM hp_of rfl (pi_range1M rfl z_range (pa_consM (pe_varM (i := 0)) pa_nilM)) (pg_nameM S.nd (i := 2) rfl (Or.inl rfl)) (pss_consM (ps_setM S.nd (i := 3) rfl (Or.inr rfl) (pe_addM rfl (pe_addM rfl (pe_lstM (pa_consM pe_intM pa_nilM)) (pe_ixM rfl (pe_varM (i := 1)) (pe_negM pe_intM))) (pe_lstM (pa_consM pe_intM pa_nilM)))) (pss_oneM (ps_exprM (pe_mM rfl ty_list ok_app PySem.F.plainAttrs_list PySem.F.slot_list_append PySem.F.type_list_append mt_append (pe_varM (i := 1)) (pa_consM (pe_frzM (pe_lcM (own := [(("at" : Str), 4)]) rfl S.nd (by decide) (pi_range1M rfl z_range (pa_consM (pe_subM (pe_lenM rfl rfl z_len (pa_consM (pe_varM (i := 3)) pa_nilM)) pe_intM) pa_nilM)) (blkOk_by (by rfl)) (fun _ _ _ _ _ => pg_ct1 S.nd rfl (by first | exact Or.inl rfl | exact Or.inr rfl)) (fun _ _ _ _ _ => pts_nilM) (fun _ _ _ _ _ => pe_addM rfl (pe_ixM rfl (pe_varM (i := 3)) (pe_varM (i := 4))) (pe_ixM rfl (pe_varM (i := 3)) (pe_addM rfl (pe_varM (i := 4)) pe_intM))))) pa_nilM)))))) (pss_oneM (ps_retM (pe_moveM (i := 1)))))
abbrev s__law_many : Stmt := top 15
def t__law_many_1 : MV → MS := tgName 2
def l__law_many_1 : MS := mSet 1 (m2 iMul (mVar 1) (m2 oAdd (mVar 2) (mC (.int 1))))
def b__law_many : MS := mSeq (mSet 1 (mC (.int 1))) (mSeq (mFor (mIter (mVar 0)) t__law_many_1 l__law_many_1) (mRet (mVar 1)))
def m__law_many : Fn := mkFn 3 [0] b__law_many
theorem sc__law_many : FnScope ["lengths", "told", "length"] ["lengths"] (defScope s__law_many) := ⟨rfl, rfl, rfl, by decide +kernel, rfl, by decide +kernel, by decide +kernel⟩
theorem ok__law_many {f : Addr} {fd : FuncData} (F : FunD K "_law_many" "_law_many" (defArgs s__law_many) (defBody s__law_many) (defScope s__law_many) [] [] f fd)  : FnOk P w K mg base (L2.CX P w) 1 f fd ["lengths"] (spM K ca 1 m__law_many) :=
  have S := sc__law_many
  fn_okM (N := ["lengths", "told", "length"]) (pins := [0]) (b := b__law_many) F S (by decide) (by decide) fun cdv A outer s H E hr => pss_consM (ps_setM S.nd (i := 1) rfl (Or.inl rfl) pe_intM) (pss_consM (ps_forM hp_of rfl (pi_iterM rfl (pe_varM (i := 0))) (pg_nameM S.nd (i := 2) rfl (Or.inl rfl)) (pss_oneM (ps_setM S.nd (i := 1) rfl (Or.inl rfl) (pe_mulM (pe_varM (i := 1)) (pe_addM rfl (pe_varM (i := 2)) pe_intM))))) (pss_oneM (ps_retM (pe_varM (i := 1)))))
abbrev s_whole_of : Stmt := top 5
def e_whole_of_1 : M MV := mCall 2 [] m_lots_number (mCons (mVar 2) (mCons (mVar 3) mNil))
def b_whole_of : MS := mRet (mCall 1 [] m_product_of (mCons (mLc (mItL gZip (mCons (mVar 0) (mCons (mVar 1) mNil))) (.tup [2, 3]) [2, 3] mYes e_whole_of_1) mNil))
def m_whole_of : Fn := mkFn 4 [0, 1] b_whole_of
theorem sc_whole_of : FnScope ["lengths", "vector", "length", "number"] ["lengths", "vector"] (defScope s_whole_of) := ⟨rfl, rfl, rfl, by decide +kernel, rfl, by decide +kernel, by decide +kernel⟩
theorem ok_whole_of {f : Addr} {fd : FuncData} (F : FunD K "whole_of" "whole_of" (defArgs s_whole_of) (defBody s_whole_of) (defScope s_whole_of) [] [] f fd) (z_zip : mg "zip" = none) (c_product_of_1 : CalM P w K mg base ca 1 "product_of" 1 [] m_product_of) (c_lots_number_2 : CalM P w K mg base ca 1 "lots_number" 2 [] m_lots_number) : FnOk P w K mg base (L2.CX P w) 2 f fd ["lengths", "vector"] (spM K ca 2 m_whole_of) :=
  have S := sc_whole_of
  fn_okM (N := ["lengths", "vector", "length", "number"]) (pins := [0, 1]) (b := b_whole_of) F S (by decide) (by decide) fun cdv A outer s H E hr => pss_oneM (ps_retM (pe_callM rfl c_product_of_1 (hr.mono (by decide)) hx_of rfl (pa_consM (pe_lcM (own := [(("length" : Str), 2), (("number" : Str), 3)]) rfl S.nd (by decide) (pi_zipM rfl rfl z_zip (pa_consM (pe_varM (i := 0)) (pa_consM (pe_varM (i := 1)) pa_nilM))) (blkOk_by (by rfl)) (fun _ _ _ _ _ => pg_tup rfl (pgs_cons (pg_name S.nd (i := 2) rfl (by first | exact Or.inl rfl | exact Or.inr rfl)) (pgs_cons (pg_name S.nd (i := 3) rfl (by first | exact Or.inl rfl | exact Or.inr rfl)) pgs_nil))) (fun _ _ _ _ _ => pts_nilM) (fun _ _ _ _ _ => pe_callM rfl c_lots_number_2 (hr.mono (by decide)) hx_no rfl (pa_consM (pe_varM (i := 2)) (pa_consM (pe_varM (i := 3)) pa_nilM)))) pa_nilM)))
abbrev s__law_all : Stmt := top 12
def u__law_all_1 : M Bool := mT (m2 oNotN (mVar 2) (mC .non))
def l__law_all_1 : MS := mSeq (mExpr (mM isL gApp (mVar 1) (mCons (mVar 2) mNil))) (mSet 2 (mCall 2 [] m__law_next (mCons (mVar 0) (mCons (mVar 2) mNil))))
def b__law_all : MS := mSeq (mPar 1 2 (mCons (mL gLstM mNil) (mCons (m2 oRepT (mL gTupM (mCons (mC (.int 0)) mNil)) (mL (onL gLen) (mCons (mVar 0) mNil))) mNil))) (mSeq (mWhile u__law_all_1 l__law_all_1) (mRet (mMove 1)))
def m__law_all : Fn := mkFn 3 [0] b__law_all
theorem sc__law_all : FnScope ["lengths", "told", "vector"] ["lengths"] (defScope s__law_all) := ⟨rfl, rfl, rfl, by decide +kernel, rfl, by decide +kernel, by decide +kernel⟩
theorem ok__law_all {f : Addr} {fd : FuncData} (F : FunD K "_law_all" "_law_all" (defArgs s__law_all) (defBody s__law_all) (defScope s__law_all) [] [] f fd) (z_len : mg "len" = none) (c__law_next_2 : CalM P w K mg base ca 1 "_law_next" 2 [] m__law_next) : FnOk P w K mg base (L2.CX P w) 2 f fd ["lengths"] (spM K ca 1 m__law_all) :=
  have S := sc__law_all
  fn_okM (N := ["lengths", "told", "vector"]) (pins := [0]) (b := b__law_all) F S (by decide) (by decide) fun cdv A outer s H E hr => pss_consM (ps_parM rfl S.nd (i := 1) (j := 2) rfl rfl (by decide) rfl rfl (pa_consM (pe_lstM pa_nilM) (pa_consM (pe_repTM rfl (pe_tupM (pa_consM pe_intM pa_nilM)) (pe_lenM rfl rfl z_len (pa_consM (pe_varM (i := 0)) pa_nilM))) pa_nilM)) rfl) (pss_consM (ps_whileM hp_of (pt_notNM (pe_varM (i := 2)) pe_nonM) (pss_consM (ps_exprM (pe_mM rfl ty_list ok_app PySem.F.plainAttrs_list PySem.F.slot_list_append PySem.F.type_list_append mt_append (pe_varM (i := 1)) (pa_consM (pe_varM (i := 2)) pa_nilM))) (pss_oneM (ps_setM S.nd (i := 2) rfl (Or.inl rfl) (pe_callM rfl c__law_next_2 (hr.mono (by decide)) hx_of rfl (pa_consM (pe_varM (i := 0)) (pa_consM (pe_varM (i := 2)) pa_nilM))))))) (pss_oneM (ps_retM (pe_moveM (i := 1)))))
abbrev s__law_lengths : Stmt := top 14
def t__law_lengths_1 : MV → MS := tgName 2
def l__law_lengths_1 : MS := mExpr (mM isL gApp (mVar 1) (mCons (mCall 3 [] m__law_pull (mCons (mVar 0) (mCons (mC (.int 8)) (mCons (mC (.int 2)) mNil)))) mNil))
def u__law_lengths_1 : M Bool := tOrM (mT (m2 iGt (mL (onL gSum) (mCons (mVar 1) mNil)) (mC (.int 12)))) (mT (m2 iGt (mCall 1 [] m__law_many (mCons (mVar 1) mNil)) (mC (.int 120))))
def l__law_lengths_2 : MS := mSeq (mSet 3 (mM isL gIdx (mVar 1) (mCons (mL (onL gMaxL) (mCons (mVar 1) mNil)) mNil))) (mAsgT (m2 iSub (m2 oIx (mVar 1) (mVar 3)) (mC (.int 1))) (tgSub (mVar 1) (mVar 3)))
def b__law_lengths : MS := mSeq (mSet 1 (mL gLstM mNil)) (mSeq (mFor (mItL gRange1 (mCons (m2 oAdd (mC (.int 1)) (mCall 3 [] m__law_pull (mCons (mVar 0) (mCons (mC (.int 3)) (mCons (mC (.int 1)) mNil))))) mNil)) t__law_lengths_1 l__law_lengths_1) (mSeq (mIfS (mT (m2 oEq (mCall 3 [.int 0] m__law_pull (mCons (mVar 0) (mCons (mC (.int 3)) mNil))) (mC (.int 0)))) (mSet 1 (mL (onL gList) (mCons (m2 oIx (mL gLstM (mCons (mL gTupM (mCons (mC (.int 12)) mNil)) (mCons (mL gTupM (mCons (mC (.int 9)) (mCons (mC (.int 2)) (mCons (mC (.int 1)) mNil)))) (mCons (mL gTupM (mCons (mC (.int 4)) (mCons (mC (.int 3)) (mCons (mC (.int 5)) mNil)))) (mCons (mL gTupM (mCons (mC (.int 3)) (mCons (mC (.int 4)) (mCons (mC (.int 5)) mNil)))) (mCons (mL gTupM (mCons (mC (.int 7)) (mCons (mC (.int 4)) (mCons (mC (.int 1)) mNil)))) (mCons (mL gTupM (mCons (mC (.int 0)) (mCons (mC (.int 11)) mNil))) (mCons (mL gTupM (mCons (mC (.int 0)) (mCons (mC (.int 0)) (mCons (mC (.int 0)) mNil)))) (mCons (mL gTupM (mCons (mC (.int 11)) (mCons (mC (.int 1)) mNil))) (mCons (mL gTupM (mCons (mC (.int 5)) (mCons (mC (.int 5)) (mCons (mC (.int 2)) mNil)))) (mCons (mL gTupM (mCons (mC (.int 10)) (mCons (mC (.int 2)) mNil))) (mCons (mL gTupM (mCons (mC (.int 2)) (mCons (mC (.int 3)) (mCons (mC (.int 7)) mNil)))) (mCons (mL gTupM (mCons (mC (.int 7)) (mCons (mC (.int 2)) (mCons (mC (.int 3)) mNil)))) mNil))))))))))))) (mCall 3 [.int 0] m__law_pull (mCons (mVar 0) (mCons (mC (.int 12)) mNil)))) mNil))) mNext) (mSeq (mWhile u__law_lengths_1 l__law_lengths_2) (mRet (mL (onL gTuple) (mCons (mVar 1) mNil))))))
def m__law_lengths : Fn := mkFn 4 [0] b__law_lengths
theorem sc__law_lengths : FnScope ["bag", "lengths", "turn", "at"] ["bag"] (defScope s__law_lengths) := ⟨rfl, rfl, rfl, by decide +kernel, rfl, by decide +kernel, by decide +kernel⟩
theorem ok__law_lengths {f : Addr} {fd : FuncData} (F : FunD K "_law_lengths" "_law_lengths" (defArgs s__law_lengths) (defBody s__law_lengths) (defScope s__law_lengths) [] [] f fd) (z_range : mg "range" = none) (z_list : mg "list" = none) (z_sum : mg "sum" = none) (z_max : mg "max" = none) (z_tuple : mg "tuple" = none) (c__law_pull_3 : CalM P w K mg base ca 1 "_law_pull" 3 [] m__law_pull) (c__law_pull_2 : CalM P w K mg base ca 1 "_law_pull" 3 [.int 0] m__law_pull) (c__law_many_1 : CalM P w K mg base ca 1 "_law_many" 1 [] m__law_many) : FnOk P w K mg base (L2.CX P w) 2 f fd ["bag"] (spM K ca 1 m__law_lengths) :=
  have S := sc__law_lengths
  fn_okM (N := ["bag", "lengths", "turn", "at"]) (pins := [0]) (b := b__law_lengths) F S (by decide) (by decide) fun cdv A outer s H E hr => pss_consM (ps_setM S.nd (i := 1) rfl (Or.inl rfl) (pe_lstM pa_nilM)) (pss_consM (ps_forM hp_of rfl (pi_range1M rfl z_range (pa_consM (pe_addM rfl pe_intM (pe_callM rfl c__law_pull_3 (hr.mono (by decide)) hx_of rfl (pa_consM (pe_varM (i := 0)) (pa_consM pe_intM (pa_consM pe_intM pa_nilM))))) pa_nilM)) (pg_nameM S.nd (i := 2) rfl (Or.inl rfl)) (pss_oneM (ps_exprM (pe_mM rfl ty_list ok_app PySem.F.plainAttrs_list PySem.F.slot_list_append PySem.F.type_list_append mt_append (pe_varM (i := 1)) (pa_consM (pe_callM rfl c__law_pull_3 (hr.mono (by decide)) hx_of rfl (pa_consM (pe_varM (i := 0)) (pa_consM pe_intM (pa_consM pe_intM pa_nilM)))) pa_nilM))))) (pss_consM (ps_ifM (pt_eqM hr rfl (pe_callM rfl c__law_pull_2 (hr.mono (by decide)) hx_of rfl (pa_consM (pe_varM (i := 0)) (pa_consM pe_intM pa_nilM))) pe_intM) (pss_oneM (ps_setM S.nd (i := 1) rfl (Or.inl rfl) (pe_listM rfl rfl rfl z_list (pa_consM (pe_ixM rfl (pe_lstM (pa_consM (pe_tupM (pa_consM pe_intM pa_nilM)) (pa_consM (pe_tupM (pa_consM pe_intM (pa_consM pe_intM (pa_consM pe_intM pa_nilM)))) (pa_consM (pe_tupM (pa_consM pe_intM (pa_consM pe_intM (pa_consM pe_intM pa_nilM)))) (pa_consM (pe_tupM (pa_consM pe_intM (pa_consM pe_intM (pa_consM pe_intM pa_nilM)))) (pa_consM (pe_tupM (pa_consM pe_intM (pa_consM pe_intM (pa_consM pe_intM pa_nilM)))) (pa_consM (pe_tupM (pa_consM pe_intM (pa_consM pe_intM pa_nilM))) (pa_consM (pe_tupM (pa_consM pe_intM (pa_consM pe_intM (pa_consM pe_intM pa_nilM)))) (pa_consM (pe_tupM (pa_consM pe_intM (pa_consM pe_intM pa_nilM))) (pa_consM (pe_tupM (pa_consM pe_intM (pa_consM pe_intM (pa_consM pe_intM pa_nilM)))) (pa_consM (pe_tupM (pa_consM pe_intM (pa_consM pe_intM pa_nilM))) (pa_consM (pe_tupM (pa_consM pe_intM (pa_consM pe_intM (pa_consM pe_intM pa_nilM)))) (pa_consM (pe_tupM (pa_consM pe_intM (pa_consM pe_intM (pa_consM pe_intM pa_nilM)))) pa_nilM))))))))))))) (pe_callM rfl c__law_pull_2 (hr.mono (by decide)) hx_of rfl (pa_consM (pe_varM (i := 0)) (pa_consM pe_intM pa_nilM)))) pa_nilM)))) pss_nilM) (pss_consM (ps_whileM hp_of (pt_wM (pw_orM (pt_gtM (pe_sumM rfl rfl rfl rfl z_sum (pa_consM (pe_varM (i := 1)) pa_nilM)) pe_intM) (pw_or1M (pt_gtM (pe_callM rfl c__law_many_1 (hr.mono (by decide)) hx_of rfl (pa_consM (pe_varM (i := 1)) pa_nilM)) pe_intM)))) (pss_consM (ps_setM S.nd (i := 3) rfl (Or.inl rfl) (pe_mM rfl ty_list ok_idx PySem.F.plainAttrs_list PySem.F.slot_list_index PySem.F.type_list_index mt_index (pe_varM (i := 1)) (pa_consM (pe_maxLM rfl rfl rfl rfl z_max (pa_consM (pe_varM (i := 1)) pa_nilM)) pa_nilM))) (pss_oneM (ps_asgM (pe_subM (pe_ixM rfl (pe_varM (i := 1)) (pe_varM (i := 3))) pe_intM) (pg_subM (pe_varM (i := 1)) (pe_varM (i := 3))))))) (pss_oneM (ps_retM (pe_tupleM rfl rfl rfl z_tuple (pa_consM (pe_varM (i := 1)) pa_nilM)))))))
abbrev s__law_lots : Stmt := top 17
def t__law_lots_1 : MV → MS := tgName 2
def l__law_lots_1 : MS := mSeq (mSet 3 (mCall 3 [] m__law_pull (mCons (mVar 0) (mCons (mC (.int 41)) (mCons (mC (.int 3)) mNil))))) (mSeq (mSet 4 (m2 iSub (mCall 3 [.int 0] m__law_pull (mCons (mVar 0) (mCons (m2 oAdd (mVar 3) (mC (.int 9))) mNil))) (mC (.int 4)))) (mSeq (mSet 5 (mIf (mT (mChain bLe bLe (mC (.int 0)) (mVar 4) (mVar 3))) (m2 oIx (m2 oIx (mVar 1) (mVar 3)) (mVar 4)) (mC (.int 0)))) (mIfS (tNotM (mTru (mCall 2 [] m__law_same (mCons (mL gTupM (mCons (mCall 2 [] m_lots_number (mCons (mVar 3) (mCons (mVar 4) mNil))) (mCons (mCall 2 [] m_lots_number (mCons (mVar 3) (mCons (m2 iSub (mVar 3) (mVar 4)) mNil))) (mCons (mCall 2 [] m_lots_number (mCons (mVar 3) (mCons (m2 iSub (m1 iNeg (mC (.int 1))) (m2 iMul (mVar 4) (mVar 4))) mNil))) (mCons (mCall 2 [] m_lots_number (mCons (mVar 3) (mCons (m2 oAdd (mVar 3) (mC (.int 1))) mNil))) mNil))))) (mCons (mL gTupM (mCons (mVar 5) (mCons (mVar 5) (mCons (mC (.int 0)) (mCons (mC (.int 0)) mNil))))) mNil))))) (mRet (mC (.bl false))) mNext)))
def b__law_lots : MS := mSeq (mFor (mItL gRange1 (mCons (mC (.int 6)) mNil)) t__law_lots_1 l__law_lots_1) (mRet (mC (.bl true)))
def m__law_lots : Fn := mkFn 6 [0, 1] b__law_lots
theorem sc__law_lots : FnScope ["bag", "rows", "turn", "many", "some", "due"] ["bag", "rows"] (defScope s__law_lots) := ⟨rfl, rfl, rfl, by decide +kernel, rfl, by decide +kernel, by decide +kernel⟩
theorem ok__law_lots {f : Addr} {fd : FuncData} (F : FunD K "_law_lots" "_law_lots" (defArgs s__law_lots) (defBody s__law_lots) (defScope s__law_lots) [] [] f fd) (z_range : mg "range" = none) (c__law_pull_3 : CalM P w K mg base ca 1 "_law_pull" 3 [] m__law_pull) (c__law_pull_2 : CalM P w K mg base ca 1 "_law_pull" 3 [.int 0] m__law_pull) (c__law_same_2 : CalM P w K mg base ca 1 "_law_same" 2 [] m__law_same) (c_lots_number_2 : CalM P w K mg base ca 1 "lots_number" 2 [] m_lots_number) : FnOk P w K mg base (L2.CX P w) 2 f fd ["bag", "rows"] (spM K ca 2 m__law_lots) :=
  have S := sc__law_lots
  fn_okM (N := ["bag", "rows", "turn", "many", "some", "due"]) (pins := [0, 1]) (b := b__law_lots) F S (by decide) (by decide) fun cdv A outer s H E hr => pss_consM (ps_forM hp_of rfl (pi_range1M rfl z_range (pa_consM pe_intM pa_nilM)) (pg_nameM S.nd (i := 2) rfl (Or.inl rfl)) (pss_consM (ps_setM S.nd (i := 3) rfl (Or.inl rfl) (pe_callM rfl c__law_pull_3 (hr.mono (by decide)) hx_of rfl (pa_consM (pe_varM (i := 0)) (pa_consM pe_intM (pa_consM pe_intM pa_nilM))))) (pss_consM (ps_setM S.nd (i := 4) rfl (Or.inl rfl) (pe_subM (pe_callM rfl c__law_pull_2 (hr.mono (by decide)) hx_of rfl (pa_consM (pe_varM (i := 0)) (pa_consM (pe_addM rfl (pe_varM (i := 3)) pe_intM) pa_nilM))) pe_intM)) (pss_consM (ps_setM S.nd (i := 5) rfl (Or.inl rfl) (pe_ifM (pt_chainM oc_le oc_le pe_intM (pe_varM (i := 4)) (pe_varM (i := 3))) (pe_ixM rfl (pe_ixM rfl (pe_varM (i := 1)) (pe_varM (i := 3))) (pe_varM (i := 4))) pe_intM)) (pss_oneM (ps_ifM (pt_notM (pt_truM rfl (pe_callM rfl c__law_same_2 (hr.mono (by decide)) hx_of rfl (pa_consM (pe_tupM (pa_consM (pe_callM rfl c_lots_number_2 (hr.mono (by decide)) hx_of rfl (pa_consM (pe_varM (i := 3)) (pa_consM (pe_varM (i := 4)) pa_nilM))) (pa_consM (pe_callM rfl c_lots_number_2 (hr.mono (by decide)) hx_of rfl (pa_consM (pe_varM (i := 3)) (pa_consM (pe_subM (pe_varM (i := 3)) (pe_varM (i := 4))) pa_nilM))) (pa_consM (pe_callM rfl c_lots_number_2 (hr.mono (by decide)) hx_of rfl (pa_consM (pe_varM (i := 3)) (pa_consM (pe_subM (pe_negM pe_intM) (pe_mulM (pe_varM (i := 4)) (pe_varM (i := 4)))) pa_nilM))) (pa_consM (pe_callM rfl c_lots_number_2 (hr.mono (by decide)) hx_of rfl (pa_consM (pe_varM (i := 3)) (pa_consM (pe_addM rfl (pe_varM (i := 3)) pe_intM) pa_nilM))) pa_nilM))))) (pa_consM (pe_tupM (pa_consM (pe_varM (i := 5)) (pa_consM (pe_varM (i := 5)) (pa_consM pe_intM (pa_consM pe_intM pa_nilM))))) pa_nilM))))) (pss_oneM (ps_retM pe_blM)) pss_nilM)))))) (pss_oneM (ps_retM pe_blM))
abbrev s__law_scene : Stmt := top 16
def t__law_scene_1 : MV → MS := tgName 7
def l__law_scene_1 : MS := mSet 6 (m2 iMul (mVar 6) (m2 oIx (m2 oIx (mVar 1) (m2 oIx (mVar 2) (mVar 7))) (m2 oIx (m2 oIx (mVar 3) (mVar 5)) (mVar 7))))
def t__law_scene_2 : MV → MS := tgName 5
def l__law_scene_2 : MS := mSeq (mSet 6 (mC (.int 1))) (mSeq (mFor (mItL gRange1 (mCons (mL (onL gLen) (mCons (mVar 2) mNil)) mNil)) t__law_scene_1 l__law_scene_1) (mSeq (mSet 4 (m2 oAdd (mVar 4) (mVar 6))) (mIfS (tOrM (mT (m2 oIn (mVar 5) (mL gTupM (mCons (mC (.int 0)) (mCons (m2 iSub (mL (onL gLen) (mCons (mVar 3) mNil)) (mC (.int 1))) mNil))))) (mT (m2 oEq (mCall 3 [.int 0] m__law_pull (mCons (mVar 0) (mCons (mC (.int 4)) mNil))) (mC (.int 0))))) (mIfS (tNotM (mTru (mCall 2 [] m__law_same (mCons (mL gTupM (mCons (mCall 2 [] m_whole_of (mCons (mVar 2) (mCons (m2 oIx (mVar 3) (mVar 5)) mNil))) (mCons (mCall 2 [] m_vector_place (mCons (mVar 2) (mCons (m2 oIx (mVar 3) (mVar 5)) mNil))) mNil))) (mCons (mL gTupM (mCons (mVar 6) (mCons (mVar 5) mNil))) mNil))))) (mRet (mC (.bl false))) mNext) mNext)))
def b__law_scene : MS := mSeq (mSet 2 (mCall 1 [] m__law_lengths (mCons (mVar 0) mNil))) (mSeq (mSet 3 (mCall 1 [] m__law_all (mCons (mVar 2) mNil))) (mSeq (mIfS (tNotM (mTru (mCall 2 [] m__law_same (mCons (mCall 1 [] m_vectors_of (mCons (mVar 2) mNil)) (mCons (mL (onL gTuple) (mCons (mVar 3) mNil)) mNil))))) (mRet (mC (.bl false))) mNext) (mSeq (mSet 4 (mC (.int 0))) (mSeq (mFor (mItL gRange1 (mCons (mL (onL gLen) (mCons (mVar 3) mNil)) mNil)) t__law_scene_2 l__law_scene_2) (mRet (m2 oEq (mVar 4) (m2 iShl (mC (.int 1)) (mL (onL gSum) (mCons (mVar 2) mNil)))))))))
def m__law_scene : Fn := mkFn 8 [0, 1] b__law_scene
theorem sc__law_scene : FnScope ["bag", "rows", "lengths", "vectors", "total", "at", "whole", "coin"] ["bag", "rows"] (defScope s__law_scene) := ⟨rfl, rfl, rfl, by decide +kernel, rfl, by decide +kernel, by decide +kernel⟩
theorem ok__law_scene {f : Addr} {fd : FuncData} (F : FunD K "_law_scene" "_law_scene" (defArgs s__law_scene) (defBody s__law_scene) (defScope s__law_scene) [] [] f fd) (z_tuple : mg "tuple" = none) (z_range : mg "range" = none) (z_len : mg "len" = none) (z_sum : mg "sum" = none) (c__law_lengths_1 : CalM P w K mg base ca 2 "_law_lengths" 1 [] m__law_lengths) (c__law_all_1 : CalM P w K mg base ca 2 "_law_all" 1 [] m__law_all) (c__law_same_2 : CalM P w K mg base ca 1 "_law_same" 2 [] m__law_same) (c_vectors_of_1 : CalM P w K mg base ca 1 "vectors_of" 1 [] m_vectors_of) (c__law_pull_2 : CalM P w K mg base ca 1 "_law_pull" 3 [.int 0] m__law_pull) (c_vector_place_2 : CalM P w K mg base ca 1 "vector_place" 2 [] m_vector_place) (c_whole_of_2 : CalM P w K mg base ca 2 "whole_of" 2 [] m_whole_of) : FnOk P w K mg base (L2.CX P w) 3 f fd ["bag", "rows"] (spM K ca 2 m__law_scene) :=
  have S := sc__law_scene
  fn_okM (N := ["bag", "rows", "lengths", "vectors", "total", "at", "whole", "coin"]) (pins := [0, 1]) (b := b__law_scene) F S (by decide) (by decide) fun cdv A outer s H E hr => pss_consM (ps_setM S.nd (i := 2) rfl (Or.inl rfl) (pe_callM rfl c__law_lengths_1 (hr.mono (by decide)) hx_of rfl (pa_consM (pe_varM (i := 0)) pa_nilM))) (pss_consM (ps_setM S.nd (i := 3) rfl (Or.inl rfl) (pe_callM rfl c__law_all_1 (hr.mono (by decide)) hx_of rfl (pa_consM (pe_varM (i := 2)) pa_nilM))) (pss_consM (ps_ifM (pt_notM (pt_truM rfl (pe_callM rfl c__law_same_2 (hr.mono (by decide)) hx_of rfl (pa_consM (pe_callM rfl c_vectors_of_1 (hr.mono (by decide)) hx_of rfl (pa_consM (pe_varM (i := 2)) pa_nilM)) (pa_consM (pe_tupleM rfl rfl rfl z_tuple (pa_consM (pe_varM (i := 3)) pa_nilM)) pa_nilM))))) (pss_oneM (ps_retM pe_blM)) pss_nilM) (pss_consM (ps_setM S.nd (i := 4) rfl (Or.inl rfl) pe_intM) (pss_consM (ps_forM hp_of rfl (pi_range1M rfl z_range (pa_consM (pe_lenM rfl rfl z_len (pa_consM (pe_varM (i := 3)) pa_nilM)) pa_nilM)) (pg_nameM S.nd (i := 5) rfl (Or.inl rfl)) (pss_consM (ps_setM S.nd (i := 6) rfl (Or.inl rfl) pe_intM) (pss_consM (ps_forM hp_of rfl (pi_range1M rfl z_range (pa_consM (pe_lenM rfl rfl z_len (pa_consM (pe_varM (i := 2)) pa_nilM)) pa_nilM)) (pg_nameM S.nd (i := 7) rfl (Or.inl rfl)) (pss_oneM (ps_setM S.nd (i := 6) rfl (Or.inl rfl) (pe_mulM (pe_varM (i := 6)) (pe_ixM rfl (pe_ixM rfl (pe_varM (i := 1)) (pe_ixM rfl (pe_varM (i := 2)) (pe_varM (i := 7)))) (pe_ixM rfl (pe_ixM rfl (pe_varM (i := 3)) (pe_varM (i := 5))) (pe_varM (i := 7)))))))) (pss_consM (ps_setM S.nd (i := 4) rfl (Or.inl rfl) (pe_addM rfl (pe_varM (i := 4)) (pe_varM (i := 6)))) (pss_oneM (ps_ifM (pt_wM (pw_orM (pt_inM hr rfl (pe_varM (i := 5)) (pe_tupM (pa_consM pe_intM (pa_consM (pe_subM (pe_lenM rfl rfl z_len (pa_consM (pe_varM (i := 3)) pa_nilM)) pe_intM) pa_nilM))) (by with_unfolding_all rfl)) (pw_or1M (pt_eqM hr rfl (pe_callM rfl c__law_pull_2 (hr.mono (by decide)) hx_of rfl (pa_consM (pe_varM (i := 0)) (pa_consM pe_intM pa_nilM))) pe_intM)))) (pss_oneM (ps_ifM (pt_notM (pt_truM rfl (pe_callM rfl c__law_same_2 (hr.mono (by decide)) hx_of rfl (pa_consM (pe_tupM (pa_consM (pe_callM rfl c_whole_of_2 (hr.mono (by decide)) hx_of rfl (pa_consM (pe_varM (i := 2)) (pa_consM (pe_ixM rfl (pe_varM (i := 3)) (pe_varM (i := 5))) pa_nilM))) (pa_consM (pe_callM rfl c_vector_place_2 (hr.mono (by decide)) hx_of rfl (pa_consM (pe_varM (i := 2)) (pa_consM (pe_ixM rfl (pe_varM (i := 3)) (pe_varM (i := 5))) pa_nilM))) pa_nilM))) (pa_consM (pe_tupM (pa_consM (pe_varM (i := 6)) (pa_consM (pe_varM (i := 5)) pa_nilM))) pa_nilM))))) (pss_oneM (ps_retM pe_blM)) pss_nilM)) pss_nilM)))))) (pss_oneM (ps_retM (pe_eqM hr rfl (pe_varM (i := 4)) (pe_shlM pe_intM (pe_sumM rfl rfl rfl rfl z_sum (pa_consM (pe_varM (i := 2)) pa_nilM))))))))))
abbrev s__law_whole_sum : Stmt := top 18
def t__law_whole_sum_1 : MV → MS := tgName 5
def l__law_whole_sum_1 : MS := mSeq (mExpr (mM isL gApp (mVar 3) (mCons (mCall 2 [] m_vector_place (mCons (mVar 1) (mCons (mVar 5) mNil))) mNil))) (mExpr (mM isL gApp (mVar 4) (mCons (mCall 2 [] m_whole_of (mCons (mVar 1) (mCons (mVar 5) mNil))) mNil)))
def t__law_whole_sum_2 : MV → MS := tgName 14
def l__law_whole_sum_2 : MS := mPar 13 11 (mCons (m2 oAdd (mVar 13) (m2 iMod (mL (onL gInt) (mCons (mVar 11) mNil)) (mC (.int 2)))) (mCons (m2 iDiv (mVar 11) (mC (.int 2))) mNil))
def t__law_whole_sum_3 : MV → MS := tgName 12
def l__law_whole_sum_3 : MS := mSeq (mSet 13 (mC (.int 0))) (mSeq (mFor (mItL gRange1 (mCons (mVar 12) mNil)) t__law_whole_sum_2 l__law_whole_sum_2) (mExpr (mM isL gApp (mVar 10) (mCons (mVar 13) mNil))))
def t__law_whole_sum_4 : MV → MS := tgName 9
def l__law_whole_sum_4 : MS := mSeq (mPar 10 11 (mCons (mL gLstM mNil) (mCons (mVar 9) mNil))) (mSeq (mFor (mIter (mVar 1)) t__law_whole_sum_3 l__law_whole_sum_3) (mIfS (mT (m2 oEq (mL (onL gTuple) (mCons (mVar 10) mNil)) (m2 oIx (mVar 2) (mVar 6)))) (mSet 7 (m2 oAdd (mVar 7) (mC (.int 1)))) mNext))
def t__law_whole_sum_5 : MV → MS := tgName 6
def l__law_whole_sum_5 : MS := mSeq (mPar 7 8 (mCons (mC (.int 0)) (mCons (mL (onL gSum) (mCons (mVar 1) mNil)) mNil))) (mSeq (mFor (mItL gRange1 (mCons (m2 iShl (mC (.int 1)) (mVar 8)) mNil)) t__law_whole_sum_4 l__law_whole_sum_4) (mIfS (tNotM (mTru (mCall 2 [] m__law_same (mCons (m2 oIx (mVar 4) (mVar 6)) (mCons (mVar 7) mNil))))) (mRet (mC (.bl false))) mNext))
def b__law_whole_sum : MS := mSeq (mSet 1 (m2 oIx (mL gTupM (mCons (mL gTupM (mCons (mC (.int 2)) (mCons (mC (.int 1)) mNil))) (mCons (mL gTupM (mCons (mC (.int 3)) mNil)) (mCons (mL gTupM (mCons (mC (.int 1)) (mCons (mC (.int 0)) (mCons (mC (.int 2)) mNil)))) (mCons (mL gTupM (mCons (mC (.int 0)) mNil)) (mCons (mL gTupM (mCons (mC (.int 1)) (mCons (mC (.int 1)) (mCons (mC (.int 1)) mNil)))) mNil)))))) (mCall 3 [.int 0] m__law_pull (mCons (mVar 0) (mCons (mC (.int 5)) mNil))))) (mSeq (mSet 2 (mCall 1 [] m__law_all (mCons (mVar 1) mNil))) (mSeq (mPar 3 4 (mCons (mL gLstM mNil) (mCons (mL gLstM mNil) mNil))) (mSeq (mFor (mIter (mVar 2)) t__law_whole_sum_1 l__law_whole_sum_1) (mSeq (mIfS (tNotM (mTru (mCall 2 [] m__law_same (mCons (mL (onL gTuple) (mCons (mVar 3) mNil)) (mCons (m1 gTRg (mL (onL gLen) (mCons (mVar 2) mNil))) mNil))))) (mRet (mC (.bl false))) mNext) (mSeq (mFor (mItL gRange1 (mCons (mL (onL gLen) (mCons (mVar 2) mNil)) mNil)) t__law_whole_sum_5 l__law_whole_sum_5) (mRet (mC (.bl true))))))))
def m__law_whole_sum : Fn := mkFn 15 [0] b__law_whole_sum
theorem sc__law_whole_sum : FnScope ["bag", "lengths", "vectors", "places", "wholes", "vector", "at", "count", "flips", "number", "heads", "bits", "length", "head", "turn"] ["bag"] (defScope s__law_whole_sum) := ⟨rfl, rfl, rfl, by decide +kernel, rfl, by decide +kernel, by decide +kernel⟩
theorem ok__law_whole_sum {f : Addr} {fd : FuncData} (F : FunD K "_law_whole_sum" "_law_whole_sum" (defArgs s__law_whole_sum) (defBody s__law_whole_sum) (defScope s__law_whole_sum) [] [] f fd) (z_len : mg "len" = none) (z_range : mg "range" = none) (z_tuple : mg "tuple" = none) (z_sum : mg "sum" = none) (z_int : mg "int" = none) (c__law_pull_2 : CalM P w K mg base ca 1 "_law_pull" 3 [.int 0] m__law_pull) (c__law_all_1 : CalM P w K mg base ca 2 "_law_all" 1 [] m__law_all) (c_vector_place_2 : CalM P w K mg base ca 1 "vector_place" 2 [] m_vector_place) (c_whole_of_2 : CalM P w K mg base ca 2 "whole_of" 2 [] m_whole_of) (c__law_same_2 : CalM P w K mg base ca 1 "_law_same" 2 [] m__law_same) : FnOk P w K mg base (L2.CX P w) 3 f fd ["bag"] (spM K ca 1 m__law_whole_sum) :=
  have S := sc__law_whole_sum
  fn_okM (N := ["bag", "lengths", "vectors", "places", "wholes", "vector", "at", "count", "flips", "number", "heads", "bits", "length", "head", "turn"]) (pins := [0]) (b := b__law_whole_sum) F S (by decide) (by decide) fun cdv A outer s H E hr => pss_consM (ps_setM S.nd (i := 1) rfl (Or.inl rfl) (pe_ixM rfl (pe_tupM (pa_consM (pe_tupM (pa_consM pe_intM (pa_consM pe_intM pa_nilM))) (pa_consM (pe_tupM (pa_consM pe_intM pa_nilM)) (pa_consM (pe_tupM (pa_consM pe_intM (pa_consM pe_intM (pa_consM pe_intM pa_nilM)))) (pa_consM (pe_tupM (pa_consM pe_intM pa_nilM)) (pa_consM (pe_tupM (pa_consM pe_intM (pa_consM pe_intM (pa_consM pe_intM pa_nilM)))) pa_nilM)))))) (pe_callM rfl c__law_pull_2 (hr.mono (by decide)) hx_of rfl (pa_consM (pe_varM (i := 0)) (pa_consM pe_intM pa_nilM))))) (pss_consM (ps_setM S.nd (i := 2) rfl (Or.inl rfl) (pe_callM rfl c__law_all_1 (hr.mono (by decide)) hx_of rfl (pa_consM (pe_varM (i := 1)) pa_nilM))) (pss_consM (ps_parM rfl S.nd (i := 3) (j := 4) rfl rfl (by decide) rfl rfl (pa_consM (pe_lstM pa_nilM) (pa_consM (pe_lstM pa_nilM) pa_nilM)) rfl) (pss_consM (ps_forM hp_of rfl (pi_iterM rfl (pe_varM (i := 2))) (pg_nameM S.nd (i := 5) rfl (Or.inl rfl)) (pss_consM (ps_exprM (pe_mM rfl ty_list ok_app PySem.F.plainAttrs_list PySem.F.slot_list_append PySem.F.type_list_append mt_append (pe_varM (i := 3)) (pa_consM (pe_callM rfl c_vector_place_2 (hr.mono (by decide)) hx_of rfl (pa_consM (pe_varM (i := 1)) (pa_consM (pe_varM (i := 5)) pa_nilM))) pa_nilM))) (pss_oneM (ps_exprM (pe_mM rfl ty_list ok_app PySem.F.plainAttrs_list PySem.F.slot_list_append PySem.F.type_list_append mt_append (pe_varM (i := 4)) (pa_consM (pe_callM rfl c_whole_of_2 (hr.mono (by decide)) hx_of rfl (pa_consM (pe_varM (i := 1)) (pa_consM (pe_varM (i := 5)) pa_nilM))) pa_nilM)))))) (pss_consM (ps_ifM (pt_notM (pt_truM rfl (pe_callM rfl c__law_same_2 (hr.mono (by decide)) hx_of rfl (pa_consM (pe_tupleM rfl rfl rfl z_tuple (pa_consM (pe_varM (i := 3)) pa_nilM)) (pa_consM (pe_tupRgM rfl rfl z_range rfl z_tuple (pe_lenM rfl rfl z_len (pa_consM (pe_varM (i := 2)) pa_nilM))) pa_nilM))))) (pss_oneM (ps_retM pe_blM)) pss_nilM) (pss_consM (ps_forM hp_of rfl (pi_range1M rfl z_range (pa_consM (pe_lenM rfl rfl z_len (pa_consM (pe_varM (i := 2)) pa_nilM)) pa_nilM)) (pg_nameM S.nd (i := 6) rfl (Or.inl rfl)) (pss_consM (ps_parM rfl S.nd (i := 7) (j := 8) rfl rfl (by decide) rfl rfl (pa_consM pe_intM (pa_consM (pe_sumM rfl rfl rfl rfl z_sum (pa_consM (pe_varM (i := 1)) pa_nilM)) pa_nilM)) rfl) (pss_consM (ps_forM hp_of rfl (pi_range1M rfl z_range (pa_consM (pe_shlM pe_intM (pe_varM (i := 8))) pa_nilM)) (pg_nameM S.nd (i := 9) rfl (Or.inl rfl)) (pss_consM (ps_parM rfl S.nd (i := 10) (j := 11) rfl rfl (by decide) rfl rfl (pa_consM (pe_lstM pa_nilM) (pa_consM (pe_varM (i := 9)) pa_nilM)) rfl) (pss_consM (ps_forM hp_of rfl (pi_iterM rfl (pe_varM (i := 1))) (pg_nameM S.nd (i := 12) rfl (Or.inl rfl)) (pss_consM (ps_setM S.nd (i := 13) rfl (Or.inl rfl) pe_intM) (pss_consM (ps_forM hp_of rfl (pi_range1M rfl z_range (pa_consM (pe_varM (i := 12)) pa_nilM)) (pg_nameM S.nd (i := 14) rfl (Or.inl rfl)) (pss_oneM (ps_parM rfl S.nd (i := 13) (j := 11) rfl rfl (by decide) rfl rfl (pa_consM (pe_addM rfl (pe_varM (i := 13)) (pe_modM (pe_intcM rfl rfl z_int (pa_consM (pe_varM (i := 11)) pa_nilM)) pe_intM)) (pa_consM (pe_divM (pe_varM (i := 11)) pe_intM) pa_nilM)) rfl))) (pss_oneM (ps_exprM (pe_mM rfl ty_list ok_app PySem.F.plainAttrs_list PySem.F.slot_list_append PySem.F.type_list_append mt_append (pe_varM (i := 10)) (pa_consM (pe_varM (i := 13)) pa_nilM))))))) (pss_oneM (ps_ifM (pt_eqM hr rfl (pe_tupleM rfl rfl rfl z_tuple (pa_consM (pe_varM (i := 10)) pa_nilM)) (pe_ixM rfl (pe_varM (i := 2)) (pe_varM (i := 6)))) (pss_oneM (ps_setM S.nd (i := 7) rfl (Or.inl rfl) (pe_addM rfl (pe_varM (i := 7)) pe_intM))) pss_nilM))))) (pss_oneM (ps_ifM (pt_notM (pt_truM rfl (pe_callM rfl c__law_same_2 (hr.mono (by decide)) hx_of rfl (pa_consM (pe_ixM rfl (pe_varM (i := 4)) (pe_varM (i := 6))) (pa_consM (pe_varM (i := 7)) pa_nilM))))) (pss_oneM (ps_retM pe_blM)) pss_nilM))))) (pss_oneM (ps_retM pe_blM)))))))
abbrev s__law_hand : Stmt := top 19
def b__law_hand : MS := mSeq (mSet 1 (mL gTupM (mCons (mCallK 1 0 1 m_vectors_of mNil (mCons (mL gTupM (mCons (mC (.int 1)) (mCons (mC (.int 2)) mNil))) mNil)) (mCons (mCallK 2 0 2 m_whole_of mNil (mCons (mL gTupM (mCons (mC (.int 1)) (mCons (mC (.int 2)) mNil))) (mCons (mL gTupM (mCons (mC (.int 1)) (mCons (mC (.int 1)) mNil))) mNil))) (mCons (mCallK 2 0 2 m_vector_place mNil (mCons (mL gTupM (mCons (mC (.int 1)) (mCons (mC (.int 2)) mNil))) (mCons (mL gTupM (mCons (mC (.int 1)) (mCons (mC (.int 0)) mNil))) mNil))) (mCons (mCallK 2 0 2 m_lots_number mNil (mCons (mC (.int 4)) (mCons (mC (.int 2)) mNil))) mNil)))))) (mSeq (mIfS (tNotM (mTru (mCall 2 [] m__law_same (mCons (mVar 1) (mCons (mL gTupM (mCons (mL gTupM (mCons (mL gTupM (mCons (mC (.int 0)) (mCons (mC (.int 0)) mNil))) (mCons (mL gTupM (mCons (mC (.int 0)) (mCons (mC (.int 1)) mNil))) (mCons (mL gTupM (mCons (mC (.int 0)) (mCons (mC (.int 2)) mNil))) (mCons (mL gTupM (mCons (mC (.int 1)) (mCons (mC (.int 0)) mNil))) (mCons (mL gTupM (mCons (mC (.int 1)) (mCons (mC (.int 1)) mNil))) (mCons (mL gTupM (mCons (mC (.int 1)) (mCons (mC (.int 2)) mNil))) mNil))))))) (mCons (mC (.int 2)) (mCons (mC (.int 3)) (mCons (mC (.int 6)) mNil))))) mNil))))) (mRet (mC (.bl false))) mNext) (mSeq (mSet 1 (mL gTupM (mCons (mCall 1 [] m_vectors_of (mCons (mL gTupM (mCons (mC (.int 0)) mNil)) mNil)) (mCons (mCall 1 [] m_vectors_of (mCons (mL gTupM (mCons (mC (.int 0)) (mCons (mC (.int 1)) mNil))) mNil)) (mCons (mCall 2 [] m_whole_of (mCons (mL gTupM (mCons (mC (.int 0)) (mCons (mC (.int 0)) (mCons (mC (.int 0)) mNil)))) (mCons (mL gTupM (mCons (mC (.int 0)) (mCons (mC (.int 0)) (mCons (mC (.int 0)) mNil)))) mNil))) (mCons (mCall 2 [] m_whole_of (mCons (mL gTupM (mCons (mC (.int 4)) (mCons (mC (.int 4)) mNil))) (mCons (mL gTupM (mCons (mC (.int 2)) (mCons (mC (.int 1)) mNil))) mNil))) (mCons (mCall 2 [] m_vector_place (mCons (mL gTupM (mCons (mC (.int 2)) (mCons (mC (.int 3)) (mCons (mC (.int 1)) mNil)))) (mCons (mL gTupM (mCons (mC (.int 1)) (mCons (mC (.int 2)) (mCons (mC (.int 1)) mNil)))) mNil))) (mCons (mCall 2 [] m_lots_number (mCons (mC (.int 0)) (mCons (mC (.int 0)) mNil))) mNil)))))))) (mSeq (mSet 1 (m2 oAdd (mVar 1) (mL gTupM (mCons (mCall 2 [] m_lots_number (mCons (mC (.int 0)) (mCons (mC (.int 1)) mNil))) (mCons (mCall 2 [] m_lots_number (mCons (mC (.int 3)) (mCons (m1 iNeg (mC (.int 1))) mNil))) mNil))))) (mRet (mCall 2 [] m__law_same (mCons (mVar 1) (mCons (mL gTupM (mCons (mL gTupM (mCons (mL gTupM (mCons (mC (.int 0)) mNil)) mNil)) (mCons (mL gTupM (mCons (mL gTupM (mCons (mC (.int 0)) (mCons (mC (.int 0)) mNil))) (mCons (mL gTupM (mCons (mC (.int 0)) (mCons (mC (.int 1)) mNil))) mNil))) (mCons (mC (.int 1)) (mCons (mC (.int 24)) (mCons (mC (.int 13)) (mCons (mC (.int 1)) (mCons (mC (.int 0)) (mCons (mC (.int 0)) mNil))))))))) mNil)))))))
def m__law_hand : Fn := mkFn 2 [0] b__law_hand
theorem sc__law_hand : FnScope ["rows", "told"] ["rows"] (defScope s__law_hand) := ⟨rfl, rfl, rfl, by decide +kernel, rfl, by decide +kernel, by decide +kernel⟩
theorem ok__law_hand {f : Addr} {fd : FuncData} (F : FunD K "_law_hand" "_law_hand" (defArgs s__law_hand) (defBody s__law_hand) (defScope s__law_hand) [] [] f fd) (c_lots_number_k0 : CalK P w K mg base ca 1 "lots_number" 2 0 ["many", "some"] m_lots_number) (c_vector_place_k0 : CalK P w K mg base ca 1 "vector_place" 2 0 ["lengths", "vector"] m_vector_place) (c_whole_of_k0 : CalK P w K mg base ca 2 "whole_of" 2 0 ["lengths", "vector"] m_whole_of) (c_vectors_of_k0 : CalK P w K mg base ca 1 "vectors_of" 1 0 ["lengths"] m_vectors_of) (c__law_same_2 : CalM P w K mg base ca 1 "_law_same" 2 [] m__law_same) (c_lots_number_2 : CalM P w K mg base ca 1 "lots_number" 2 [] m_lots_number) (c_vector_place_2 : CalM P w K mg base ca 1 "vector_place" 2 [] m_vector_place) (c_whole_of_2 : CalM P w K mg base ca 2 "whole_of" 2 [] m_whole_of) (c_vectors_of_1 : CalM P w K mg base ca 1 "vectors_of" 1 [] m_vectors_of) : FnOk P w K mg base (L2.CX P w) 3 f fd ["rows"] (spM K ca 1 m__law_hand) :=
  have S := sc__law_hand
  fn_okM (N := ["rows", "told"]) (pins := [0]) (b := b__law_hand) F S (by decide) (by decide) fun cdv A outer s H E hr => pss_consM (ps_setM S.nd (i := 1) rfl (Or.inl rfl) (pe_tupM (pa_consM (pe_callK0M (ks := ["lengths"]) rfl c_vectors_of_k0 (hr.mono (by decide)) hx_of rfl (pk_consM (pe_tupM (pa_consM pe_intM (pa_consM pe_intM pa_nilM))) pk_nilM)) (pa_consM (pe_callK0M (ks := ["lengths", "vector"]) rfl c_whole_of_k0 (hr.mono (by decide)) hx_of rfl (pk_consM (pe_tupM (pa_consM pe_intM (pa_consM pe_intM pa_nilM))) (pk_consM (pe_tupM (pa_consM pe_intM (pa_consM pe_intM pa_nilM))) pk_nilM))) (pa_consM (pe_callK0M (ks := ["lengths", "vector"]) rfl c_vector_place_k0 (hr.mono (by decide)) hx_of rfl (pk_consM (pe_tupM (pa_consM pe_intM (pa_consM pe_intM pa_nilM))) (pk_consM (pe_tupM (pa_consM pe_intM (pa_consM pe_intM pa_nilM))) pk_nilM))) (pa_consM (pe_callK0M (ks := ["many", "some"]) rfl c_lots_number_k0 (hr.mono (by decide)) hx_of rfl (pk_consM pe_intM (pk_consM pe_intM pk_nilM))) pa_nilM)))))) (pss_consM (ps_ifM (pt_notM (pt_truM rfl (pe_callM rfl c__law_same_2 (hr.mono (by decide)) hx_of rfl (pa_consM (pe_varM (i := 1)) (pa_consM (pe_tupM (pa_consM (pe_tupM (pa_consM (pe_tupM (pa_consM pe_intM (pa_consM pe_intM pa_nilM))) (pa_consM (pe_tupM (pa_consM pe_intM (pa_consM pe_intM pa_nilM))) (pa_consM (pe_tupM (pa_consM pe_intM (pa_consM pe_intM pa_nilM))) (pa_consM (pe_tupM (pa_consM pe_intM (pa_consM pe_intM pa_nilM))) (pa_consM (pe_tupM (pa_consM pe_intM (pa_consM pe_intM pa_nilM))) (pa_consM (pe_tupM (pa_consM pe_intM (pa_consM pe_intM pa_nilM))) pa_nilM))))))) (pa_consM pe_intM (pa_consM pe_intM (pa_consM pe_intM pa_nilM))))) pa_nilM))))) (pss_oneM (ps_retM pe_blM)) pss_nilM) (pss_consM (ps_setM S.nd (i := 1) rfl (Or.inl rfl) (pe_tupM (pa_consM (pe_callM rfl c_vectors_of_1 (hr.mono (by decide)) hx_of rfl (pa_consM (pe_tupM (pa_consM pe_intM pa_nilM)) pa_nilM)) (pa_consM (pe_callM rfl c_vectors_of_1 (hr.mono (by decide)) hx_of rfl (pa_consM (pe_tupM (pa_consM pe_intM (pa_consM pe_intM pa_nilM))) pa_nilM)) (pa_consM (pe_callM rfl c_whole_of_2 (hr.mono (by decide)) hx_of rfl (pa_consM (pe_tupM (pa_consM pe_intM (pa_consM pe_intM (pa_consM pe_intM pa_nilM)))) (pa_consM (pe_tupM (pa_consM pe_intM (pa_consM pe_intM (pa_consM pe_intM pa_nilM)))) pa_nilM))) (pa_consM (pe_callM rfl c_whole_of_2 (hr.mono (by decide)) hx_of rfl (pa_consM (pe_tupM (pa_consM pe_intM (pa_consM pe_intM pa_nilM))) (pa_consM (pe_tupM (pa_consM pe_intM (pa_consM pe_intM pa_nilM))) pa_nilM))) (pa_consM (pe_callM rfl c_vector_place_2 (hr.mono (by decide)) hx_of rfl (pa_consM (pe_tupM (pa_consM pe_intM (pa_consM pe_intM (pa_consM pe_intM pa_nilM)))) (pa_consM (pe_tupM (pa_consM pe_intM (pa_consM pe_intM (pa_consM pe_intM pa_nilM)))) pa_nilM))) (pa_consM (pe_callM rfl c_lots_number_2 (hr.mono (by decide)) hx_of rfl (pa_consM pe_intM (pa_consM pe_intM pa_nilM))) pa_nilM)))))))) (pss_consM (ps_setM S.nd (i := 1) rfl (Or.inl rfl) (pe_addM rfl (pe_varM (i := 1)) (pe_tupM (pa_consM (pe_callM rfl c_lots_number_2 (hr.mono (by decide)) hx_of rfl (pa_consM pe_intM (pa_consM pe_intM pa_nilM))) (pa_consM (pe_callM rfl c_lots_number_2 (hr.mono (by decide)) hx_of rfl (pa_consM pe_intM (pa_consM (pe_negM pe_intM) pa_nilM))) pa_nilM))))) (pss_oneM (ps_retM (pe_callM rfl c__law_same_2 (hr.mono (by decide)) hx_of rfl (pa_consM (pe_varM (i := 1)) (pa_consM (pe_tupM (pa_consM (pe_tupM (pa_consM (pe_tupM (pa_consM pe_intM pa_nilM)) pa_nilM)) (pa_consM (pe_tupM (pa_consM (pe_tupM (pa_consM pe_intM (pa_consM pe_intM pa_nilM))) (pa_consM (pe_tupM (pa_consM pe_intM (pa_consM pe_intM pa_nilM))) pa_nilM))) (pa_consM pe_intM (pa_consM pe_intM (pa_consM pe_intM (pa_consM pe_intM (pa_consM pe_intM (pa_consM pe_intM pa_nilM))))))))) pa_nilM))))))))
abbrev s_law : Stmt := top 20
def t_law_1 : MV → MS := tgName 3
def l_law_1 : MS := mIfS (tNotM (mTru (mCall 2 [] m__law_scene (mCons (mVar 1) (mCons (mVar 2) mNil))))) (mRet (mC (.bl false))) mNext
def b_law : MS := mSeq (mPar 1 2 (mCons (mCall 1 [] m__law_bag (mCons (mVar 0) mNil)) (mCons (mCall 1 [] m__law_triangle (mCons (mC (.int 40)) mNil)) mNil))) (mSeq (mIfS (tOrM (tNotM (mTru (mCall 1 [] m__law_hand (mCons (mVar 2) mNil)))) (tNotM (mTru (mCall 1 [] m__law_whole_sum (mCons (mVar 1) mNil))))) (mRet (mC (.bl false))) mNext) (mSeq (mFor (mItL gRange1 (mCons (mC (.int 3)) mNil)) t_law_1 l_law_1) (mRet (mCall 2 [] m__law_lots (mCons (mVar 1) (mCons (mVar 2) mNil))))))
def m_law : Fn := mkFn 4 [0] b_law
theorem sc_law : FnScope ["script", "bag", "rows", "turn"] ["script"] (defScope s_law) := ⟨rfl, rfl, rfl, by decide +kernel, rfl, by decide +kernel, by decide +kernel⟩
theorem ok_law {f : Addr} {fd : FuncData} (F : FunD K "law" "law" (defArgs s_law) (defBody s_law) (defScope s_law) [] [] f fd) (z_range : mg "range" = none) (c__law_triangle_1 : CalM P w K mg base ca 1 "_law_triangle" 1 [] m__law_triangle) (c__law_bag_1 : CalM P w K mg base ca 1 "_law_bag" 1 [] m__law_bag) (c__law_whole_sum_1 : CalM P w K mg base ca 3 "_law_whole_sum" 1 [] m__law_whole_sum) (c__law_hand_1 : CalM P w K mg base ca 3 "_law_hand" 1 [] m__law_hand) (c__law_scene_2 : CalM P w K mg base ca 3 "_law_scene" 2 [] m__law_scene) (c__law_lots_2 : CalM P w K mg base ca 2 "_law_lots" 2 [] m__law_lots) : FnOk P w K mg base (L2.CX P w) 4 f fd ["script"] (spM K ca 1 m_law) :=
  have S := sc_law
  fn_okM (N := ["script", "bag", "rows", "turn"]) (pins := [0]) (b := b_law) F S (by decide) (by decide) fun cdv A outer s H E hr => pss_consM (ps_parM rfl S.nd (i := 1) (j := 2) rfl rfl (by decide) rfl rfl (pa_consM (pe_callM rfl c__law_bag_1 (hr.mono (by decide)) hx_of rfl (pa_consM (pe_varM (i := 0)) pa_nilM)) (pa_consM (pe_callM rfl c__law_triangle_1 (hr.mono (by decide)) hx_of rfl (pa_consM pe_intM pa_nilM)) pa_nilM)) rfl) (pss_consM (ps_ifM (pt_wM (pw_orM (pt_notM (pt_truM rfl (pe_callM rfl c__law_hand_1 (hr.mono (by decide)) hx_of rfl (pa_consM (pe_varM (i := 2)) pa_nilM)))) (pw_or1M (pt_notM (pt_truM rfl (pe_callM rfl c__law_whole_sum_1 (hr.mono (by decide)) hx_of rfl (pa_consM (pe_varM (i := 1)) pa_nilM))))))) (pss_oneM (ps_retM pe_blM)) pss_nilM) (pss_consM (ps_forM hp_of rfl (pi_range1M rfl z_range (pa_consM pe_intM pa_nilM)) (pg_nameM S.nd (i := 3) rfl (Or.inl rfl)) (pss_oneM (ps_ifM (pt_notM (pt_truM rfl (pe_callM rfl c__law_scene_2 (hr.mono (by decide)) hx_of rfl (pa_consM (pe_varM (i := 1)) (pa_consM (pe_varM (i := 2)) pa_nilM))))) (pss_oneM (ps_retM pe_blM)) pss_nilM))) (pss_oneM (ps_retM (pe_callM rfl c__law_lots_2 (hr.mono (by decide)) hx_of rfl (pa_consM (pe_varM (i := 1)) (pa_consM (pe_varM (i := 2)) pa_nilM)))))))
end K17

set_option maxHeartbeats 1000000
namespace K17
open PySem PySem.Spec L2 Mir
abbrev bagV (a c : Int) : MV := .lst [.ref 0, .int a, .int c]
abbrev bagH (xs : List Int) : List MO := [.lst (xs.map MV.int)]
theorem bag_loop (e : Option MV) : ∀ (items : List Int) (a : Int) (xs : List Int) (o2 o3 : Option MV), xs.length + items.length ≤ 1000 → ∃ a' xs' o2' o3',
    loopM t__law_bag_1 l__law_bag_1 (items.map MV.int) ⟨[e, some (bagV a 0), o2, o3], bagH xs, [0]⟩ = .nx ⟨[e, some (bagV a' 0), o2', o3'], bagH xs', [0]⟩ ∧ xs'.length ≤ xs.length + items.length
  | [], a, xs, o2, o3, _ => ⟨a, xs, o2, o3, rfl, Nat.le_refl _⟩
  | n :: ns, a, xs, o2, o3, hl => by
    rw [List.length_cons] at hl
    rw [List.map_cons, loop_step (s1 := ⟨[e, some (bagV a 0), some (.int n), o3], bagH xs, [0]⟩) (by simp [t__law_bag_1])]
    have hx : xs.length < 16777216 := by omega
    generalize eq : (if n < 0 then -n else n) % 2 ^ 1900 = q
    by_cases hc : 1000000000000000 ≤ q
    · obtain ⟨a', xs', o2', o3', e1, e2⟩ := bag_loop e ns ((a * 48271 + q % 1000003 + 11) % 2147483647) (xs ++ [q]) (some (.int n)) (some (.int q)) (by simp; omega)
      refine ⟨a', xs', o2', o3', ?_, by simp at e2 ⊢; omega⟩
      rw [← e1]
      generalize loopM t__law_bag_1 l__law_bag_1 (ns.map MV.int) = KK
      simp [l__law_bag_1, eq, hc, hx, bagV, bagH]
    · obtain ⟨a', xs', o2', o3', e1, e2⟩ := bag_loop e ns ((a * 48271 + q % 1000003 + 11) % 2147483647) xs (some (.int n)) (some (.int q)) (by omega)
      refine ⟨a', xs', o2', o3', ?_, by simp at e2 ⊢; omega⟩
      rw [← e1]
      generalize loopM t__law_bag_1 l__law_bag_1 (ns.map MV.int) = KK
      simp [l__law_bag_1, eq, hc, hx, bagV, bagH]
theorem pull_loop {many place a c : Int} (h0 : 0 < many) (h1 : many < 18446744073709551616) : ∀ (xs : List Int) (g : Nat) (o : Option MV), xs.length < g →
    (∃ o', whileG u__law_pull_1 l__law_pull_1 g ⟨[some (bagV a c), some (.int many), some (.int place), o, none], bagH xs, [0, 1, 2]⟩ = .nx ⟨[some (bagV a c), some (.int many), some (.int place), o', none], bagH [], [0, 1, 2]⟩) ∨
    (∃ r xs' o', whileG u__law_pull_1 l__law_pull_1 g ⟨[some (bagV a c), some (.int many), some (.int place), o, none], bagH xs, [0, 1, 2]⟩ = .rt (.int r) ⟨[some (bagV a c), some (.int many), some (.int place), o', none], bagH xs', [0, 1, 2]⟩ ∧ 0 ≤ r ∧ r < many ∧ xs'.length ≤ xs.length)
  | xs, 0, o, hl => absurd hl (Nat.not_lt_zero _)
  | [], g + 1, o, hl => by
    have t : truV (.ref 0) ⟨[some (bagV a c), some (.int many), some (.int place), o, none], bagH [], [0, 1, 2]⟩ = .ok false _ := truV_ref (xs := []) (by simp)
    exact .inl ⟨o, while_false (by simp [u__law_pull_1, t])⟩
  | x :: xs, g + 1, o, hl => by
    have t : truV (.ref 0) ⟨[some (bagV a c), some (.int many), some (.int place), o, none], bagH (x :: xs), [0, 1, 2]⟩ = .ok true _ := truV_ref (xs := (x :: xs).map MV.int) (by simp)
    rw [while_true (s1 := ⟨[some (bagV a c), some (.int many), some (.int place), o, none], bagH (x :: xs), [0, 1, 2]⟩) (by simp [u__law_pull_1, t])]
    have ih := pull_loop (place := place) (a := a) (c := c) h0 h1 xs g (some (.int x)) (by simp at hl; omega)
    generalize whileG u__law_pull_1 l__law_pull_1 g = KK at ih ⊢
    by_cases hx : 0 < x
    · refine .inr ⟨x % many, (x / many) :: xs, some (.int x), ?_, Int.emod_nonneg _ (by omega), Int.emod_lt_of_pos _ h0, by simp⟩
      simp [l__law_pull_1, hx, h0, h1]
    · rcases ih with ⟨o', e⟩ | ⟨r, xs', o', e, r0, r1, hle⟩
      · refine .inl ⟨o', ?_⟩
        rw [← e]
        simp [l__law_pull_1, hx]
      · refine .inr ⟨r, xs', o', ?_, r0, r1, by simp; omega⟩
        rw [← e]
        simp [l__law_pull_1, hx]
theorem pull_ok {many place a c : Int} {xs : List Int} (h0 : 0 < many) (h1 : many < 18446744073709551616) (hp : place < 1000000) (hl : xs.length ≤ 1000) : ∃ r a' xs', m__law_pull [bagV a c, .int many, .int place] (bagH xs) = .ok (.int r) [some (bagV a' c), none, none] (bagH xs') ∧ 0 ≤ r ∧ r < many ∧ xs'.length ≤ 1000 := by
  rcases pull_loop (place := place) (a := a) (c := c) h0 h1 xs GAS none (Nat.lt_of_le_of_lt hl (by decide)) with ⟨o', e⟩ | ⟨r, xs', o', e, r0, r1, hle⟩
  · have hq : ∀ q : Int, 0 ≤ q % many ∧ q % many < many := fun q => ⟨Int.emod_nonneg _ (by omega), Int.emod_lt_of_pos _ h0⟩
    by_cases hpl : 0 < place
    · have d1 : (0 : Int) < place * 4 + 1 := by omega
      have d2 : place * 4 + 1 < 18446744073709551616 := by omega
      generalize ew : c / (place * 4 + 1) % 9 = w
      have w0 : 0 ≤ w := by rw [← ew]; exact Int.emod_nonneg _ (by decide)
      by_cases hw : w < 2
      · have : w = 0 ∨ w = 1 := by omega
        rcases this with rfl | rfl
        · refine ⟨0, (a * 39373 + 101) % 2147483647, [], ?_, by omega, h0, by simp⟩
          simp [m__law_pull, b__law_pull, run_while, e, hpl, d1, d2, ew, bagV, bagH]
        · refine ⟨many - 1, (a * 39373 + 101) % 2147483647, [], ?_, by omega, by omega, by simp⟩
          simp [m__law_pull, b__law_pull, run_while, e, hpl, d1, d2, ew, bagV, bagH]
      · refine ⟨_, (a * 39373 + 101) % 2147483647, [], ?_, (hq ((a * 39373 + 101) % 2147483647 / 811)).1, (hq _).2, by simp⟩
        simp [m__law_pull, b__law_pull, run_while, e, hpl, d1, d2, ew, hw, h0, bagV, bagH]
    · refine ⟨_, (a * 39373 + 101) % 2147483647, [], ?_, (hq ((a * 39373 + 101) % 2147483647 / 811)).1, (hq _).2, by simp⟩
      simp [m__law_pull, b__law_pull, run_while, e, hpl, h0, bagV, bagH]
  · refine ⟨r, a, xs', ?_, r0, r1, by omega⟩
    simp [m__law_pull, b__law_pull, run_while, e]
end K17

set_option maxHeartbeats 1000000
namespace K17
open PySem PySem.Spec L2 Mir
/-! product_of -/
theorem prod_loop {o0 : Option MV} {h : List MO} {p : List Nat} (p1 : 1 ∉ p) (p2 : 2 ∉ p) : ∀ (items : List Int) (acc : Int) (o2 : Option MV), (∀ x ∈ items, x.natAbs < 18446744073709551616) →
    ∃ o2', loopM t_product_of_1 l_product_of_1 (items.map MV.int) ⟨[o0, some (.int acc), o2], h, p⟩ = .nx ⟨[o0, some (.int (items.foldl (· * ·) acc)), o2'], h, p⟩
  | [], acc, o2, _ => ⟨o2, rfl⟩
  | n :: ns, acc, o2, hx => by
    obtain ⟨o2', e⟩ := prod_loop (o0 := o0) (h := h) p1 p2 ns (acc * n) (some (.int n)) fun x m => hx x (List.mem_cons_of_mem _ m)
    have hn := hx n List.mem_cons_self
    refine ⟨o2', ?_⟩
    rw [List.map_cons, loop_step (s1 := ⟨[o0, some (.int acc), some (.int n)], h, p⟩) (by simp [t_product_of_1, p2]), List.foldl_cons, ← e]
    generalize loopM t_product_of_1 l_product_of_1 (ns.map MV.int) = KK
    simp [l_product_of_1, p1, hn]
theorem product_ok {h : List MO} {items : List Int} (hx : ∀ x ∈ items, x.natAbs < 18446744073709551616) : m_product_of [.lst (items.map MV.int)] h = .ok (.int (items.foldl (· * ·) 1)) [some (.lst (items.map MV.int))] h := by
  obtain ⟨o2', e⟩ := prod_loop (o0 := none) (h := h) (p := [0, 0]) (by simp) (by simp) items 1 none hx
  simp [m_product_of, b_product_of, e]
/-! lots_number -/
def lotsI (many some : Int) : Int := if 0 ≤ some ∧ some ≤ many then (List.range (if many - some < some then many - some else some).toNat).foldl (fun f (k : Nat) => f * (many - k) / ((k : Int) + 1)) 1 else 0
theorem lots_loop {o1 : Option MV} {h : List MO} {many : Int} (hm : many.natAbs < 1000000) : ∀ (ks : List Nat) (acc : Int) (o3 : Option MV), (∀ k ∈ ks, k < 1000000) →
    ∃ o3', loopM t_lots_number_1 l_lots_number_1 (ks.map fun (i : Nat) => MV.int (0 + (i : Int))) ⟨[some (.int many), o1, some (.int acc), o3], h, [0, 1]⟩ = .nx ⟨[some (.int many), o1, some (.int (ks.foldl (fun f (k : Nat) => f * (many - k) / ((k : Int) + 1)) acc)), o3'], h, [0, 1]⟩
  | [], acc, o3, _ => ⟨o3, rfl⟩
  | k :: ks, acc, o3, hx => by
    obtain ⟨o3', e⟩ := lots_loop (o1 := o1) (h := h) hm ks (acc * (many - k) / ((k : Int) + 1)) (some (.int k)) fun x m => hx x (List.mem_cons_of_mem _ m)
    have hk := hx k List.mem_cons_self
    have h1 : (many - (k : Int)).natAbs < 18446744073709551616 := by omega
    have h2 : (0 : Int) < (k : Int) + 1 := by omega
    have h3 : (k : Int) + 1 < 18446744073709551616 := by omega
    refine ⟨o3', ?_⟩
    rw [List.map_cons, loop_step (s1 := ⟨[some (.int many), o1, some (.int acc), some (.int k)], h, [0, 1]⟩) (by simp [t_lots_number_1]), List.foldl_cons, ← e]
    generalize loopM t_lots_number_1 l_lots_number_1 (ks.map fun (i : Nat) => MV.int (0 + (i : Int))) = KK
    simp [l_lots_number_1, h1, h2, h3]
theorem lots_ok {h : List MO} {many some : Int} (hm : many.natAbs < 1000000) : m_lots_number [.int many, .int some] h = .ok (.int (lotsI many some)) [none, none] h := by
  unfold lotsI
  by_cases h0 : 0 ≤ some
  · by_cases h1 : some ≤ many
    · have b : bound62 (if many - some < some then many - some else some) = true := bound62_of (by split <;> omega) (by split <;> omega)
      obtain ⟨o3', e⟩ := lots_loop (o1 := Option.some (.int some)) (h := h) hm (List.range (if many - some < some then many - some else some).toNat) 1 none fun k m => by
        have := List.mem_range.mp m
        split at this <;> omega
      simp [m_lots_number, b_lots_number, h0, h1, b, rgM] at e ⊢
      rw [e]
      simp
    · simp [m_lots_number, b_lots_number, h0, h1]
  · simp [m_lots_number, b_lots_number, h0]
end K17

set_option maxHeartbeats 1000000
namespace K17
open PySem PySem.Spec L2 Mir
/-! vector_place, whole_of -/
def pairV (q : Int × Int) : MV := .tup [.int q.1, .int q.2]
theorem zipM_ints : ∀ (ls vs : List Int), zipM (ls.map MV.int) (vs.map MV.int) = (ls.zip vs).map pairV
  | [], _ => rfl
  | _ :: _, [] => rfl
  | l :: ls, v :: vs => by
    have := zipM_ints ls vs
    unfold zipM at this ⊢
    simp [pairV] at this ⊢
    exact this
def placeF (p : Int) (q : Int × Int) : Int := p * (q.1 + 1) + q.2
theorem place_loop {o0 o1 : Option MV} {h : List MO} : ∀ (ps : List (Int × Int)) (acc : Int) (o3 o4 : Option MV), (∀ q ∈ ps, q.1.natAbs < 1000000) →
    ∃ o3' o4', loopM t_vector_place_1 l_vector_place_1 (ps.map pairV) ⟨[o0, o1, some (.int acc), o3, o4], h, [0, 1]⟩ = .nx ⟨[o0, o1, some (.int (ps.foldl placeF acc)), o3', o4'], h, [0, 1]⟩
  | [], acc, o3, o4, _ => ⟨o3, o4, rfl⟩
  | q :: ps, acc, o3, o4, hx => by
    obtain ⟨o3', o4', e⟩ := place_loop (o0 := o0) (o1 := o1) (h := h) ps (placeF acc q) (some (.int q.1)) (some (.int q.2)) fun x m => hx x (List.mem_cons_of_mem _ m)
    have hk := hx q List.mem_cons_self
    have h1 : (q.1 + 1).natAbs < 18446744073709551616 := by omega
    refine ⟨o3', o4', ?_⟩
    rw [List.map_cons, loop_step (s1 := ⟨[o0, o1, some (.int acc), some (.int q.1), some (.int q.2)], h, [0, 1]⟩) (by simp [t_vector_place_1, pairV]), List.foldl_cons, ← e]
    generalize loopM t_vector_place_1 l_vector_place_1 (ps.map pairV) = KK
    simp [l_vector_place_1, h1, placeF]
theorem place_ok {h : List MO} {ls vs : List Int} (hx : ∀ l ∈ ls, l.natAbs < 1000000) : m_vector_place [.tup (ls.map MV.int), .tup (vs.map MV.int)] h = .ok (.int ((ls.zip vs).foldl placeF 0)) [none, none] h := by
  obtain ⟨o3', o4', e⟩ := place_loop (o0 := some (.tup (ls.map MV.int))) (o1 := some (.tup (vs.map MV.int))) (h := h) (ls.zip vs) 0 none none fun q m => hx q.1 (List.of_mem_zip m).1
  simp [m_vector_place, b_vector_place, zipM_ints, e]
def lotsQ (q : Int × Int) : Int := lotsI q.1 q.2
def asPair : MV → MV
  | .tup [.int a, .int b] => .int (lotsI a b)
  | x => x
theorem whole_ok {h : List MO} {ls vs : List Int} (hx : ∀ l ∈ ls, l.natAbs < 1000000) (hy : ∀ q ∈ ls.zip vs, (lotsQ q).natAbs < 18446744073709551616) (hz : (ls.zip vs).length ≤ 1000) :
    m_whole_of [.tup (ls.map MV.int), .tup (vs.map MV.int)] h = .ok (.int (((ls.zip vs).map lotsQ).foldl (· * ·) 1)) [none, none] h := by
  have e := lc_map (ct := .tup [2, 3]) (vs := [2, 3]) (te := e_whole_of_1) ⟨[some (.tup (ls.map MV.int)), some (.tup (vs.map MV.int)), none, none], h, [0, 1]⟩ asPair ((ls.zip vs).map pairV) [] (by simpa using Nat.le_trans hz (by decide)) (fun x m => by
    obtain ⟨q, mq, rfl⟩ := List.mem_map.mp m
    have hq := hx q.1 (List.of_mem_zip mq).1
    refine ⟨⟨[some (.tup (ls.map MV.int)), some (.tup (vs.map MV.int)), some (.int q.1), some (.int q.2)], h, [0, 1]⟩, ⟨[some (.tup (ls.map MV.int)), some (.tup (vs.map MV.int)), some (.int q.1), some (.int q.2)], h, [0, 1]⟩, by simp [pairV], ?_, rfl, rfl⟩
    simp [e_whole_of_1, lots_ok hq, pairV, asPair])
  have em : ((ls.zip vs).map pairV).map asPair = ((ls.zip vs).map lotsQ).map MV.int := by
    rw [List.map_map, List.map_map]
    rfl
  rw [List.nil_append, em] at e
  have e2 := lcV_none (s1 := ⟨[some (.tup (ls.map MV.int)), some (.tup (vs.map MV.int)), none, none], h, [0, 1]⟩) rfl e
  have e3 := product_ok (h := h) (items := (ls.zip vs).map lotsQ) fun x m => by
    obtain ⟨q, mq, rfl⟩ := List.mem_map.mp m
    exact hy q mq
  simp [-List.map_map, m_whole_of, b_whole_of, zipM_ints, e2, e3]
/-! _law_same of equal things -/
mutual
def okV : MV → Bool
  | .int _ => true
  | .tup xs => okVs xs
  | _ => false
def okVs : List MV → Bool
  | [] => true
  | x :: xs => okV x && okVs xs
end
mutual
def szV : MV → Nat
  | .tup xs => 1 + szVs xs
  | _ => 1
def szVs : List MV → Nat
  | [] => 0
  | x :: xs => szV x + szVs xs
end
theorem okVs_app : ∀ (xs ys : List MV), okVs (xs ++ ys) = (okVs xs && okVs ys)
  | [], ys => by simp [okVs]
  | x :: xs, ys => by simp [okVs, okVs_app xs ys, Bool.and_assoc]
theorem szVs_app : ∀ (xs ys : List MV), szVs (xs ++ ys) = szVs xs + szVs ys
  | [], ys => by simp [szVs]
  | x :: xs, ys => by simp [szVs, szVs_app xs ys, Nat.add_assoc]
def twice (w : MV) : MV := .tup [w, w]
theorem zipP_self : ∀ xs : List MV, zipP xs xs = xs.map twice
  | [] => rfl
  | x :: xs => by rw [zipP, zipP_self xs]; rfl
theorem len_sz : ∀ xs : List MV, xs.length ≤ szVs xs
  | [] => Nat.le_refl _
  | x :: xs => by
    have := len_sz xs
    have h : 1 ≤ szV x := by cases x <;> simp [szV]
    simp [szVs]
    omega
theorem same_loop {o0 o1 : Option MV} {h : List MO} : ∀ (g : Nat) (ws : List MV) (o3 o4 : Option MV), okVs ws = true → szVs ws < g → szVs ws ≤ 1000000 →
    ∃ o3' o4', whileG u__law_same_1 l__law_same_1 g ⟨[o0, o1, some (.lst (ws.map twice)), o3, o4], h, [0, 1]⟩ = .nx ⟨[o0, o1, some (.lst []), o3', o4'], h, [0, 1]⟩
  | 0, ws, o3, o4, _, hg, _ => absurd hg (Nat.not_lt_zero _)
  | g + 1, ws, o3, o4, hok, hg, hs => by
    rcases List.eq_nil_or_concat ws with rfl | ⟨ws, w, rfl⟩
    · have t : truV (.sl 2) ⟨[o0, o1, some (.lst []), o3, o4], h, [0, 1]⟩ = .ok false _ := truV_sl (xs := []) (by simp)
      exact ⟨o3, o4, while_false (by simp [u__law_same_1, t])⟩
    · rw [List.concat_eq_append] at hok hg hs ⊢
      rw [okVs_app, Bool.and_eq_true] at hok
      rw [szVs_app] at hg hs
      obtain ⟨ok1, ok2⟩ := hok
      have t : truV (.sl 2) ⟨[o0, o1, some (.lst ((ws ++ [w]).map twice)), o3, o4], h, [0, 1]⟩ = .ok true ⟨[o0, o1, some (.lst ((ws ++ [w]).map twice)), o3, o4], h, [0, 1]⟩ := by
        rw [truV_sl (xs := (ws ++ [w]).map twice) (by simp)]
        simp
      rw [while_true (s1 := ⟨[o0, o1, some (.lst ((ws ++ [w]).map twice)), o3, o4], h, [0, 1]⟩) (by simp only [u__law_same_1, run_tru, run_var', List.getElem?_cons_succ, List.getElem?_cons_zero, varO_lst, thn_ok, t])]
      cases w with
      | int n =>
        simp [szVs, szV] at hg hs
        obtain ⟨o3', o4', e⟩ := same_loop (o0 := o0) (o1 := o1) (h := h) g ws (some (.int n)) (some (.int n)) ok1 (by omega) (by omega)
        refine ⟨o3', o4', ?_⟩
        rw [← e]
        generalize whileG u__law_same_1 l__law_same_1 g = KK
        simp [l__law_same_1, twice]
      | tup xs =>
        have hlen := len_sz xs
        have hlen2 := len_sz ws
        simp [szVs, szV] at hg hs
        simp [okVs, okV] at ok2
        obtain ⟨o3', o4', e⟩ := same_loop (o0 := o0) (o1 := o1) (h := h) g (ws ++ xs) (some (.tup xs)) (some (.tup xs)) (by rw [okVs_app, ok1, ok2]; rfl) (by rw [szVs_app]; omega) (by rw [szVs_app]; omega)
        refine ⟨o3', o4', ?_⟩
        rw [← e]
        generalize whileG u__law_same_1 l__law_same_1 g = KK
        have hl : ws.length + xs.length ≤ 16777216 := by omega
        simp [l__law_same_1, twice, zipP_self, hl]
      | _ => simp [okVs, okV] at ok2
theorem same_ok {h : List MO} {v : MV} (hv : okV v = true) (hs : szV v ≤ 1000000) : m__law_same [v, v] h = .ok (.bl true) [none, none] h := by
  obtain ⟨o3', o4', e⟩ := same_loop (o0 := some v) (o1 := some v) (h := h) GAS [v] none none (by simp [okVs, hv]) (by simp [szVs]; exact Nat.lt_of_le_of_lt hs (by decide)) (by simpa [szVs] using hs)
  cases v <;> first | (simp [okV] at hv; done) | (simp [twice] at e; simp [m__law_same, b__law_same, run_while, e])
/-! _law_many -/
theorem many_loop {o0 : Option MV} {h : List MO} {p : List Nat} (p1 : 1 ∉ p) (p2 : 2 ∉ p) : ∀ (items : List Int) (acc : Int) (o2 : Option MV), (∀ x ∈ items, x.natAbs < 1000000) →
    ∃ o2', loopM t__law_many_1 l__law_many_1 (items.map MV.int) ⟨[o0, some (.int acc), o2], h, p⟩ = .nx ⟨[o0, some (.int (items.foldl (fun a l => a * (l + 1)) acc)), o2'], h, p⟩
  | [], acc, o2, _ => ⟨o2, rfl⟩
  | n :: ns, acc, o2, hx => by
    obtain ⟨o2', e⟩ := many_loop (o0 := o0) (h := h) p1 p2 ns (acc * (n + 1)) (some (.int n)) fun x m => hx x (List.mem_cons_of_mem _ m)
    have hn := hx n List.mem_cons_self
    have h1 : (n + 1).natAbs < 18446744073709551616 := by omega
    refine ⟨o2', ?_⟩
    rw [List.map_cons, loop_step (s1 := ⟨[o0, some (.int acc), some (.int n)], h, p⟩) (by simp [t__law_many_1, p2]), List.foldl_cons, ← e]
    generalize loopM t__law_many_1 l__law_many_1 (ns.map MV.int) = KK
    simp [l__law_many_1, p1, h1]
def manyI (ls : List Int) : Int := ls.foldl (fun a l => a * (l + 1)) 1
theorem many_ok {h : List MO} {ls : List Int} (hx : ∀ x ∈ ls, x.natAbs < 1000000) : m__law_many [.lst (ls.map MV.int)] h = .ok (.int (manyI ls)) [some (.lst (ls.map MV.int))] h := by
  obtain ⟨o2', e⟩ := many_loop (o0 := none) (h := h) (p := [0, 0]) (by simp) (by simp) ls 1 none hx
  simp [m__law_many, b__law_many, e, manyI]
end K17

set_option maxHeartbeats 1000000
namespace K17
open PySem PySem.Spec L2 Mir
/-! vectors_of -/
def vecV (v : List Int) : MV := .tup (v.map MV.int)
def extV (len : Int) (v : List Int) : List (List Int) := (List.range (len + 1).toNat).map fun (a : Nat) => v ++ [(a : Int)]
theorem extV_len {len : Int} {v : List Int} : (extV len v).length = (len + 1).toNat := by simp [extV]
def snocV (v : List Int) : MV → MV
  | .int a => .tup (v.map MV.int ++ [.int a])
  | x => x
theorem snoc_map {len : Int} {v : List Int} : (rgM 0 (len + 1).toNat).map (snocV v) = (extV len v).map vecV := by
  simp [rgM, extV, snocV, vecV]
theorem vin_loop {o0 : Option MV} {h : List MO} {len : Int} (h0 : 0 ≤ len) (h1 : len < 1000) : ∀ (fs longer : List (List Int)) (o4 : Option MV), longer.length + fs.length * (len + 1).toNat ≤ 1000000 → (∀ v ∈ fs, v.length < 1000) →
    ∃ o4', loopM t_vectors_of_1 l_vectors_of_1 (fs.map vecV) ⟨[o0, none, some (.int len), some (.lst (longer.map vecV)), o4, none], h, [1, 0]⟩ = .nx ⟨[o0, none, some (.int len), some (.lst ((longer ++ fs.flatMap (extV len)).map vecV)), o4', none], h, [1, 0]⟩
  | [], longer, o4, _, _ => ⟨o4, by simp⟩
  | v :: fs, longer, o4, hs, hv => by
    rw [List.length_cons, Nat.add_mul, Nat.one_mul] at hs
    have hv0 := hv v List.mem_cons_self
    obtain ⟨o4', e⟩ := vin_loop (o0 := o0) (h := h) h0 h1 fs (longer ++ extV len v) (some (vecV v)) (by rw [List.length_append, extV_len]; omega) fun x m => hv x (List.mem_cons_of_mem _ m)
    have c := lc_map (ct := .one 5) (vs := [5]) (te := e_vectors_of_1) ⟨[o0, none, some (.int len), some (.lst (longer.map vecV)), some (vecV v), none], h, [1, 0]⟩ (snocV v) (rgM 0 (len + 1).toNat) [] (by simp [rgM]; omega) (fun x m => by
      obtain ⟨i, _, rfl⟩ := List.mem_map.mp m
      have hz : v.length + 1 ≤ 16777216 := by omega
      refine ⟨⟨[o0, none, some (.int len), some (.lst (longer.map vecV)), some (vecV v), some (.int (0 + (i : Int)))], h, [1, 0]⟩, ⟨[o0, none, some (.int len), some (.lst (longer.map vecV)), some (vecV v), some (.int (0 + (i : Int)))], h, [1, 0]⟩, by simp, ?_, rfl, rfl⟩
      simp [e_vectors_of_1, vecV, snocV, hz])
    rw [List.nil_append, snoc_map] at c
    have c2 := lcV_none (s1 := ⟨[o0, none, some (.int len), some (.lst (longer.map vecV)), some (vecV v), none], h, [1, 0]⟩) rfl c
    have b : bound62 (len + 1) = true := bound62_of (by omega) (by omega)
    have hz : longer.length + (len + 1).toNat ≤ 16777216 := by omega
    refine ⟨o4', ?_⟩
    rw [List.map_cons, loop_step (s1 := ⟨[o0, none, some (.int len), some (.lst (longer.map vecV)), some (vecV v), none], h, [1, 0]⟩) (by simp [t_vectors_of_1, vecV])]
    rw [List.flatMap_cons, ← List.append_assoc, ← e]
    generalize loopM t_vectors_of_1 l_vectors_of_1 (fs.map vecV) = KK
    simp [l_vectors_of_1, b, c2, extV_len, hz]
def vprod (ls : List Int) : Nat := (ls.map fun l => (l + 1).toNat).foldr (· * ·) 1
theorem vprod_pos : ∀ (ls : List Int), (∀ l ∈ ls, 0 ≤ l) → 1 ≤ vprod ls
  | [], _ => Nat.le_refl _
  | l :: ls, h => by
    have h1 := vprod_pos ls fun x m => h x (List.mem_cons_of_mem _ m)
    have h2 := h l List.mem_cons_self
    have h3 : 1 ≤ (l + 1).toNat := by omega
    show 1 ≤ (l + 1).toNat * vprod ls
    exact Nat.mul_le_mul h3 h1
def allL (ls : List Int) (found : List (List Int)) : List (List Int) := ls.foldl (fun f l => f.flatMap (extV l)) found
theorem flat_len {l : Int} : ∀ f : List (List Int), (f.flatMap (extV l)).length = f.length * (l + 1).toNat
  | [] => by simp
  | v :: f => by
    rw [List.flatMap_cons, List.length_append, extV_len, flat_len f, List.length_cons, Nat.add_mul, Nat.one_mul, Nat.add_comm]
theorem vec_loop {o0 : Option MV} {h : List MO} : ∀ (ls : List Int) (found : List (List Int)) (o2 o3 o4 : Option MV) (k : Nat), (∀ l ∈ ls, 0 ≤ l ∧ l < 1000) → found.length * vprod ls ≤ 100000 → (∀ v ∈ found, v.length ≤ k) → k + ls.length < 1000 →
    ∃ o2' o3' o4', loopM t_vectors_of_2 l_vectors_of_2 (ls.map MV.int) ⟨[o0, some (.lst (found.map vecV)), o2, o3, o4, none], h, [0]⟩ = .nx ⟨[o0, some (.lst ((allL ls found).map vecV)), o2', o3', o4', none], h, [0]⟩
  | [], found, o2, o3, o4, _, _, _, _, _ => ⟨o2, o3, o4, rfl⟩
  | l :: ls, found, o2, o3, o4, k, hl, hp, hv, hk => by
    have hl0 := hl l List.mem_cons_self
    have hls : ∀ x ∈ ls, 0 ≤ x ∧ x < 1000 := fun x m => hl x (List.mem_cons_of_mem _ m)
    have hpos := vprod_pos ls fun x m => (hls x m).1
    have hp' : found.length * (l + 1).toNat * vprod ls ≤ 100000 := by
      rw [Nat.mul_assoc]
      exact hp
    have hq : found.length * (l + 1).toNat ≤ 100000 := by
      have := Nat.mul_le_mul (Nat.le_refl (found.length * (l + 1).toNat)) hpos
      omega
    rw [List.length_cons] at hk
    obtain ⟨o4a, e1⟩ := vin_loop (o0 := o0) (h := h) hl0.1 hl0.2 found [] o4 (by rw [List.length_nil]; omega) fun v m => by
      have := hv v m
      omega
    obtain ⟨o2', o3', o4', e2⟩ := vec_loop (o0 := o0) (h := h) ls (found.flatMap (extV l)) (some (.int l)) none o4a (k + 1) hls (by rw [flat_len]; exact hp') (fun v m => by
      obtain ⟨u, mu, mv⟩ := List.mem_flatMap.mp m
      have := hv u mu
      obtain ⟨a, _, rfl⟩ := List.mem_map.mp mv
      simp
      omega) (by omega)
    refine ⟨o2', o3', o4', ?_⟩
    rw [List.map_cons, loop_step (s1 := ⟨[o0, some (.lst (found.map vecV)), some (.int l), o3, o4, none], h, [0]⟩) (by simp [t_vectors_of_2])]
    show _ = Out.nx ⟨[o0, some (.lst ((allL ls (found.flatMap (extV l))).map vecV)), o2', o3', o4', none], h, [0]⟩
    rw [← e2]
    generalize loopM t_vectors_of_2 l_vectors_of_2 (ls.map MV.int) = KK
    simp only [List.nil_append, List.map_nil] at e1
    simp [l_vectors_of_2, e1]
theorem vectors_ok {h : List MO} {ls : List Int} (hl : ∀ l ∈ ls, 0 ≤ l ∧ l < 1000) (hp : vprod ls ≤ 100000) (hk : ls.length < 900) : m_vectors_of [.tup (ls.map MV.int)] h = .ok (.tup ((allL ls [[]]).map vecV)) [none] h := by
  obtain ⟨o2', o3', o4', e⟩ := vec_loop (o0 := some (.tup (ls.map MV.int))) (h := h) ls [[]] none none none 0 hl (by simpa using hp) (fun v m => by rw [List.mem_singleton.mp m]; exact Nat.le_refl _) (by omega)
  have e0 : [vecV []] = [MV.tup []] := rfl
  simp only [List.map_cons, List.map_nil, e0] at e
  simp [m_vectors_of, b_vectors_of, e]
end K17

set_option maxHeartbeats 1000000
namespace K17
open PySem PySem.Spec L2 Mir
/-! _law_next -/
def downs : Nat → List MV
  | 0 => []
  | n + 1 => .int (n : Nat) :: downs n
theorem rgD_succ {lo : Int} {n : Nat} : rgD (lo + 1) (-1) (n + 1) = .int (lo + 1) :: rgD lo (-1) n := by
  unfold rgD
  rw [List.range_succ_eq_map, List.map_cons, List.map_map]
  congr 1
  · simp
  · refine List.map_congr_left fun a _ => ?_
    show MV.int (lo + 1 + ((a + 1 : Nat) : Int) * (-1)) = MV.int (lo + (a : Int) * (-1))
    congr 1
    omega
theorem rgD_downs : ∀ n : Nat, rgD ((n : Int) - 1) (-1) n = downs n
  | 0 => rfl
  | n + 1 => by
    have : ((n + 1 : Nat) : Int) - 1 = ((n : Int) - 1) + 1 := by omega
    rw [this, rgD_succ, rgD_downs n, downs]
    congr 2
    omega
/-- the next one, all from the right -/
def nextR : List Int → List Int → Option (List Int)
  | l :: ls, r :: rs => if r < l then some ((r + 1) :: rs) else (nextR ls rs).map (0 :: ·)
  | _, _ => none
def zerosV (k : Nat) : List MV := List.replicate k (.int 0)
theorem snoc_at {xs ys : List MV} {x : MV} : L2.atI (xs ++ x :: ys) (xs.length : Nat) = some x := by
  rw [at_nat]
  simp
theorem snoc_set {xs ys : List MV} {x y : MV} : (xs ++ x :: ys).set xs.length y = xs ++ y :: ys := by simp
theorem next_loop {h : List MO} {o1 : Option MV} {ls : List Int} : ∀ (la ra : List Int) (k : Nat) (o3 : Option MV), la.length = ra.length → (∃ lb, ls = la.reverse ++ lb ∧ lb.length = k) →
    (∃ w o3', nextR la ra = some w ∧ loopM t__law_next_1 l__law_next_1 (downs la.length) ⟨[some (.tup (ls.map MV.int)), o1, some (.lst (ra.reverse.map MV.int ++ zerosV k)), o3], h, [0, 1]⟩ = .rt (.tup (w.reverse.map MV.int ++ zerosV k)) ⟨[some (.tup (ls.map MV.int)), o1, some (.lst (w.reverse.map MV.int ++ zerosV k)), o3'], h, [0, 1]⟩) ∨
    (∃ o3', nextR la ra = none ∧ loopM t__law_next_1 l__law_next_1 (downs la.length) ⟨[some (.tup (ls.map MV.int)), o1, some (.lst (ra.reverse.map MV.int ++ zerosV k)), o3], h, [0, 1]⟩ = .nx ⟨[some (.tup (ls.map MV.int)), o1, some (.lst (zerosV (la.length + k))), o3'], h, [0, 1]⟩)
  | [], [], k, o3, _, _ => .inr ⟨o3, rfl, by simp [downs]⟩
  | [], _ :: _, k, o3, h, _ => by simp at h
  | _ :: _, [], k, o3, h, _ => by simp at h
  | l :: la, r :: ra, k, o3, hl, ⟨lb, e, lk⟩ => by
    have hl' : la.length = ra.length := by simpa using hl
    have n1 : (ra.reverse.map MV.int).length = la.length := by simp [hl']
    have n2 : (la.reverse.map MV.int).length = la.length := by simp
    have e1 : (r :: ra).reverse.map MV.int ++ zerosV k = ra.reverse.map MV.int ++ .int r :: zerosV k := by simp
    have e2 : ls.map MV.int = la.reverse.map MV.int ++ .int l :: lb.map MV.int := by rw [e]; simp
    have a1 : L2.atI (ra.reverse.map MV.int ++ .int r :: zerosV k) (la.length : Nat) = some (.int r) := by rw [← n1]; exact snoc_at
    have a2 : L2.atI (ls.map MV.int) (la.length : Nat) = some (.int l) := by rw [e2, ← n2]; exact snoc_at
    have sx : ∀ y : MV, (ra.reverse.map MV.int ++ .int r :: zerosV k).set la.length y = ra.reverse.map MV.int ++ y :: zerosV k := fun y => by rw [← n1]; exact snoc_set
    have ix : ixN (ra.reverse.map MV.int ++ .int r :: zerosV k).length (la.length : Nat) = some la.length := ixN_nat (by rw [List.length_append, n1, List.length_cons]; omega)
    rw [e1]
    show (∃ w o3', (if r < l then some ((r + 1) :: ra) else (nextR la ra).map (0 :: ·)) = some w ∧ loopM _ _ (.int (la.length : Nat) :: downs la.length) _ = _) ∨ (∃ o3', (if r < l then some ((r + 1) :: ra) else (nextR la ra).map (0 :: ·)) = none ∧ loopM _ _ (.int (la.length : Nat) :: downs la.length) _ = _)
    rw [loop_step (s1 := ⟨[some (.tup (ls.map MV.int)), o1, some (.lst (ra.reverse.map MV.int ++ .int r :: zerosV k)), some (.int (la.length : Nat))], h, [0, 1]⟩) (by simp [t__law_next_1])]
    by_cases c : r < l
    · refine .inl ⟨(r + 1) :: ra, some (.int (la.length : Nat)), by rw [if_pos c], ?_⟩
      generalize loopM t__law_next_1 l__law_next_1 (downs la.length) = KK
      simp only [List.reverse_cons, List.map_append, List.map_cons, List.map_nil, List.append_assoc, List.singleton_append]
      generalize hrow : ra.reverse.map MV.int ++ .int r :: zerosV k = row at a1 sx ix
      simp [l__law_next_1, a1, a2, c, ix, sx, hrow]
    · have zk : MV.int 0 :: zerosV k = zerosV (k + 1) := rfl
      have step : l__law_next_1 ⟨[some (.tup (ls.map MV.int)), o1, some (.lst (ra.reverse.map MV.int ++ .int r :: zerosV k)), some (.int (la.length : Nat))], h, [0, 1]⟩ = .nx ⟨[some (.tup (ls.map MV.int)), o1, some (.lst (ra.reverse.map MV.int ++ zerosV (k + 1))), some (.int (la.length : Nat))], h, [0, 1]⟩ := by
        rw [← zk]
        generalize hrow : ra.reverse.map MV.int ++ .int r :: zerosV k = row at a1 sx ix
        simp [l__law_next_1, a1, a2, c, ix, sx, hrow]
      rw [step, turn_nx, if_neg c]
      rcases next_loop (h := h) (o1 := o1) (ls := ls) la ra (k + 1) (some (.int (la.length : Nat))) hl' ⟨l :: lb, by rw [e]; simp, by simp [lk]⟩ with ⟨w, o3', q1, q2⟩ | ⟨o3', q1, q2⟩
      · refine .inl ⟨0 :: w, o3', by rw [q1]; rfl, ?_⟩
        rw [q2]
        have : (0 :: w).reverse.map MV.int ++ zerosV k = w.reverse.map MV.int ++ zerosV (k + 1) := by
          rw [← zk]
          simp
        rw [this]
      · refine .inr ⟨o3', by rw [q1]; rfl, ?_⟩
        rw [q2]
        have : la.length + (k + 1) = (l :: la).length + k := by simp; omega
        rw [this]
def optV : Option (List Int) → MV
  | some w => vecV w.reverse
  | none => .non
theorem next_ok {h : List MO} {la ra : List Int} (hl : la.length = ra.length) (hk : la.length < 1000) : m__law_next [.tup (la.reverse.map MV.int), vecV ra.reverse] h = .ok (optV (nextR la ra)) [none, none] h := by
  have n1 : (ra.reverse.map MV.int).length = la.length := by simp [hl]
  have b1 : bound62 ((la.length : Int) - 1) = true := bound62_of (by omega) (by omega)
  have b2 : bound62 (-1) = true := by decide
  have e0 : ((la.length : Int) - 1 - -1).toNat = la.length := by omega
  have z0 : zerosV 0 = [] := rfl
  rcases next_loop (h := h) (o1 := some (vecV ra.reverse)) (ls := la.reverse) la ra 0 none hl ⟨[], by simp, rfl⟩ with ⟨w, o3', q1, q2⟩ | ⟨o3', q1, q2⟩
  · rw [q1]
    rw [z0, List.append_nil, List.append_nil, vecV] at q2
    generalize hrr : ra.reverse.map MV.int = rr at n1 q2
    simp [-List.map_reverse, m__law_next, b__law_next, vecV, hrr, n1, b1, b2, e0, rgD_downs, q2, optV]
  · rw [q1]
    rw [z0, List.append_nil, vecV] at q2
    generalize hrr : ra.reverse.map MV.int = rr at n1 q2
    simp [-List.map_reverse, m__law_next, b__law_next, vecV, hrr, n1, b1, b2, e0, rgD_downs, q2, optV]
end K17

set_option maxHeartbeats 1000000
namespace K17
open PySem PySem.Spec L2 Mir
/-! chains: each one's next is the one behind it -/
def Chain {α : Type} (f : α → Option α) : List α → Prop
  | [] => True
  | x :: r => f x = r.head? ∧ Chain f r
theorem chain_app {α : Type} {f : α → Option α} : ∀ (xs ys : List α), (∀ (i : Nat) (x : α), xs[i]? = some x → f x = ((xs ++ ys)[i + 1]?)) → Chain f ys → Chain f (xs ++ ys)
  | [], ys, _, h => h
  | x :: xs, ys, hx, h => by
    refine ⟨?_, chain_app xs ys (fun i z e => hx (i + 1) z (by simpa using e)) h⟩
    have := hx 0 x rfl
    rw [this]
    cases xs with
    | nil => simp [List.head?_eq_getElem?]
    | cons _ _ => simp
def enumR : List Int → List (List Int)
  | [] => [[]]
  | l :: ls => (enumR ls).flatMap fun v => (List.range (l + 1).toNat).map fun (a : Nat) => (a : Int) :: v
def blk (l : Int) (v : List Int) : List (List Int) := (List.range (l + 1).toNat).map fun (a : Nat) => (a : Int) :: v
theorem blk_get {l : Int} {v : List Int} {i : Nat} : (blk l v)[i]? = if i < (l + 1).toNat then some ((i : Int) :: v) else none := by
  unfold blk
  rw [List.getElem?_map]
  split
  · rename_i h
    rw [List.getElem?_range h]
    rfl
  · rename_i h
    rw [List.getElem?_eq_none (by simp; omega)]
    rfl
theorem blk_len {l : Int} {v : List Int} : (blk l v).length = (l + 1).toNat := by simp [blk]
theorem chain_flat {l : Int} {ls : List Int} (h0 : 0 ≤ l) : ∀ E : List (List Int), Chain (nextR ls) E → Chain (nextR (l :: ls)) (E.flatMap (blk l))
  | [], _ => True.intro
  | v :: E, ⟨h1, h2⟩ => by
    rw [List.flatMap_cons]
    refine chain_app _ _ (fun i x e => ?_) (chain_flat h0 E h2)
    rw [blk_get] at e
    split at e
    · rename_i hi
      cases e
      show (if (i : Int) < l then some (((i : Int) + 1) :: v) else (nextR ls v).map (0 :: ·)) = _
      by_cases c : (i : Int) < l
      · rw [if_pos c, List.getElem?_append_left (by rw [blk_len]; omega), blk_get, if_pos (by omega)]
        simp
      · rw [if_neg c, List.getElem?_append_right (by rw [blk_len]; omega), h1]
        have : i + 1 - (blk l v).length = 0 := by rw [blk_len]; omega
        rw [this]
        cases E with
        | nil => rfl
        | cons u E =>
          rw [List.flatMap_cons, List.head?_cons, List.getElem?_append_left (by rw [blk_len]; omega), blk_get, if_pos (by omega)]
          rfl
    · cases e
theorem enum_chain : ∀ ls : List Int, (∀ l ∈ ls, 0 ≤ l) → Chain (nextR ls) (enumR ls)
  | [], _ => ⟨rfl, True.intro⟩
  | l :: ls, h => chain_flat (h l List.mem_cons_self) _ (enum_chain ls fun x m => h x (List.mem_cons_of_mem _ m))
theorem enum_head : ∀ ls : List Int, (∀ l ∈ ls, 0 ≤ l) → ∃ E, enumR ls = List.replicate ls.length 0 :: E
  | [], _ => ⟨[], rfl⟩
  | l :: ls, h => by
    obtain ⟨E, e⟩ := enum_head ls fun x m => h x (List.mem_cons_of_mem _ m)
    have h0 := h l List.mem_cons_self
    have hr : (l + 1).toNat = l.toNat + 1 := by omega
    have q : enumR (l :: ls) = List.replicate (ls.length + 1) 0 :: (((List.range l.toNat).map Nat.succ).map (fun (a : Nat) => (a : Int) :: List.replicate ls.length 0) ++ E.flatMap (blk l)) := by
      show (enumR ls).flatMap (blk l) = _
      rw [e, List.flatMap_cons]
      unfold blk
      rw [hr, List.range_succ_eq_map, List.map_cons, List.cons_append]
      rfl
    exact ⟨_, q⟩
theorem enum_lens : ∀ (ls : List Int), ∀ v ∈ enumR ls, v.length = ls.length
  | [], v, m => by rw [List.mem_singleton.mp m]
  | l :: ls, v, m => by
    obtain ⟨u, mu, mv⟩ := List.mem_flatMap.mp m
    obtain ⟨a, _, rfl⟩ := List.mem_map.mp mv
    simp [enum_lens ls u mu]
theorem enum_len : ∀ ls : List Int, (enumR ls).length = vprod ls
  | [] => rfl
  | l :: ls => by
    have flat : ∀ E : List (List Int), (E.flatMap (blk l)).length = (l + 1).toNat * E.length := fun E => by
      induction E with
      | nil => simp
      | cons v E ih => rw [List.flatMap_cons, List.length_append, blk_len, ih, List.length_cons, Nat.mul_add, Nat.mul_one, Nat.add_comm]
    show ((enumR ls).flatMap (blk l)).length = (l + 1).toNat * vprod ls
    rw [flat, enum_len ls]
/-- the same list, by what vectors_of does -/
theorem all_enum : ∀ (ls : List Int), allL ls.reverse [[]] = (enumR ls).map List.reverse
  | [] => rfl
  | l :: ls => by
    have e := all_enum ls
    unfold allL at e ⊢
    rw [List.reverse_cons, List.foldl_append, e]
    show ((enumR ls).map List.reverse).flatMap (extV l) = ((enumR ls).flatMap (blk l)).map List.reverse
    rw [List.flatMap_map, List.map_flatMap]
    congr 1
    funext v
    simp [extV, blk]
/-! _law_all -/
@[simp] theorem optV_so {o : Option (List Int)} : (optV o).slotable = true := by cases o <;> rfl
@[simp] theorem optV_some {v : List Int} : optV (some v) = .tup (v.reverse.map MV.int) := rfl
theorem lall_loop {h : List MO} {la : List Int} (hla : la.length < 1000) : ∀ (g : Nat) (E told : List (List Int)), Chain (nextR la) E → (∀ v ∈ E, v.length = la.length) → E.length < g → told.length + E.length ≤ 1000000 →
    ∃ o2', whileG u__law_all_1 l__law_all_1 g ⟨[some (.tup (la.reverse.map MV.int)), some (.lst (told.map fun v => vecV v.reverse)), some (optV E.head?)], h, [0]⟩ = .nx ⟨[some (.tup (la.reverse.map MV.int)), some (.lst ((told ++ E).map fun v => vecV v.reverse)), o2'], h, [0]⟩
  | 0, E, told, _, _, hg, _ => absurd hg (Nat.not_lt_zero _)
  | g + 1, [], told, _, _, _, _ => by
    refine ⟨some .non, ?_⟩
    rw [List.append_nil]
    exact while_false (by simp [u__law_all_1, optV])
  | g + 1, v :: E, told, ⟨h1, h2⟩, hv, hg, hs => by
    obtain ⟨o2', e⟩ := lall_loop (h := h) hla g E (told ++ [v]) h2 (fun u m => hv u (List.mem_cons_of_mem _ m)) (by simpa using hg) (by simp at hs ⊢; omega)
    have n := next_ok (h := h) (la := la) (ra := v) (hv v List.mem_cons_self).symm hla
    refine ⟨o2', ?_⟩
    rw [while_true (s1 := ⟨[some (.tup (la.reverse.map MV.int)), some (.lst (told.map fun v => vecV v.reverse)), some (optV (some v))], h, [0]⟩) (by simp [u__law_all_1])]
    rw [List.append_assoc, List.singleton_append] at e
    rw [← e]
    generalize whileG u__law_all_1 l__law_all_1 g = KK
    have hz : told.length < 16777216 := by simp at hs; omega
    rw [h1] at n
    unfold vecV at n
    simp [-List.map_reverse, l__law_all_1, vecV, hz, n]
theorem lall_ok {h : List MO} {la : List Int} (h0 : ∀ l ∈ la, 0 ≤ l) (hl : la.length < 900) (hp : vprod la ≤ 100000) : m__law_all [.tup (la.reverse.map MV.int)] h = .ok (.lst ((enumR la).map fun v => vecV v.reverse)) [none] h := by
  obtain ⟨E, e⟩ := enum_head la h0
  have hz : (enumR la).head? = some (List.replicate la.length 0) := by rw [e]; rfl
  obtain ⟨o2', q⟩ := lall_loop (h := h) (la := la) (by omega) GAS (enumR la) [] (enum_chain la h0) (enum_lens la) (by rw [enum_len]; exact Nat.lt_of_le_of_lt hp (by decide)) (by rw [enum_len, List.length_nil]; omega)
  rw [hz, List.nil_append] at q
  have hrep : (List.replicate ((la.reverse.map MV.int).length : Int).toNat [MV.int 0]).flatten = (List.replicate la.length (0 : Int)).reverse.map MV.int := by
    simp
  have hlen : (la.reverse.map MV.int).length = la.length := by simp
  have b1 : (la.length : Int) ≤ 1000 := by omega
  have b2 : (-1000 : Int) ≤ (la.length : Int) := by omega
  rw [hlen] at hrep
  simp only [optV_some, List.map_nil] at q
  rw [← hrep] at q
  generalize hla : la.reverse.map MV.int = LA at hlen q
  simp [m__law_all, b__law_all, run_while, hlen, b1, b2, hla] at q ⊢
  simp [q]
end K17

set_option maxHeartbeats 2000000
namespace K17
open PySem PySem.Spec L2 Mir
/-! _law_lengths -/
def good (ls : List Int) : Prop := 1 ≤ ls.length ∧ ls.length ≤ 3 ∧ ∀ l ∈ ls, 0 ≤ l ∧ l ≤ 12
theorem sum_set : ∀ (ls : List Int) (j : Nat) (x v : Int), ls[j]? = some x → (ls.set j v).sum = ls.sum - x + v
  | [], j, x, v, h => by simp at h
  | y :: ls, 0, x, v, h => by
    cases h
    simp
    omega
  | y :: ls, j + 1, x, v, h => by
    have := sum_set ls j x v (by simpa using h)
    simp [this]
    omega
theorem sum_nonneg : ∀ ls : List Int, (∀ l ∈ ls, 0 ≤ l) → 0 ≤ ls.sum
  | [], _ => by simp
  | l :: ls, h => by
    have h1 := sum_nonneg ls fun x m => h x (List.mem_cons_of_mem _ m)
    have h2 := h l List.mem_cons_self
    simp
    omega
theorem zero_sum : ∀ ls : List Int, (∀ l ∈ ls, l = 0) → ls.sum = 0 ∧ manyI ls = 1
  | [], _ => ⟨rfl, rfl⟩
  | l :: ls, h => by
    obtain ⟨h1, h2⟩ := zero_sum ls fun x m => h x (List.mem_cons_of_mem _ m)
    have h3 := h l List.mem_cons_self
    subst h3
    exact ⟨by simp [h1], h2⟩
theorem wl_loop {b o2 : Option MV} {h : List MO} : ∀ (g : Nat) (ls : List Int) (o3 : Option MV), good ls → ls.sum.toNat < g →
    ∃ ls' o3', whileG u__law_lengths_1 l__law_lengths_2 g ⟨[b, some (.lst (ls.map MV.int)), o2, o3], h, [0]⟩ = .nx ⟨[b, some (.lst (ls'.map MV.int)), o2, o3'], h, [0]⟩ ∧ good ls' ∧ ls'.sum ≤ 12
  | 0, ls, o3, _, hg => absurd hg (Nat.not_lt_zero _)
  | g + 1, ls, o3, hgood, hg => by
    obtain ⟨n1, n3, hb⟩ := id hgood
    have ne : ls ≠ [] := fun e => by rw [e] at n1; exact absurd n1 (by decide)
    have s1 : gSum (.sl 1) ⟨[b, some (.lst (ls.map MV.int)), o2, o3], h, [0]⟩ = .ok (.int ls.sum) ⟨[b, some (.lst (ls.map MV.int)), o2, o3], h, [0]⟩ := run_sum (by simp)
    have m1 := many_ok (h := h) (ls := ls) fun x m => by
      have := hb x m
      omega
    have test : u__law_lengths_1 ⟨[b, some (.lst (ls.map MV.int)), o2, o3], h, [0]⟩ = .ok (decide (12 < ls.sum) || decide (120 < manyI ls)) ⟨[b, some (.lst (ls.map MV.int)), o2, o3], h, [0]⟩ := by
      by_cases c : 12 < ls.sum
      · simp [u__law_lengths_1, s1, m1, c]
      · simp [u__law_lengths_1, s1, m1, c]
    cases ct : (decide (12 < ls.sum) || decide (120 < manyI ls)) with
    | false =>
      rw [ct] at test
      rw [Bool.or_eq_false_iff] at ct
      exact ⟨ls, o3, while_false test, hgood, by have := of_decide_eq_false ct.1; omega⟩
    | true =>
      rw [ct] at test
      rw [while_true test]
      have mx := maxI_mem ne
      have mb := hb _ mx
      have pos : 1 ≤ maxI ls := by
        rcases Int.lt_or_le (maxI ls) 1 with c | c
        · have z := zero_sum ls fun l m => by
            have := le_maxI l m
            have := hb l m
            omega
          rw [z.1, z.2] at ct
          exact absurd ct (by decide)
        · exact c
      have jl := List.idxOf_lt_length_of_mem mx
      have je : ls[ls.idxOf (maxI ls)]? = some (maxI ls) := by rw [List.getElem?_eq_getElem jl, List.getElem_idxOf jl]
      have i1 : ∀ o, gMaxL (.sl 1) ⟨[b, some (.lst (ls.map MV.int)), o2, o], h, [0]⟩ = .ok (.int (maxI ls)) ⟨[b, some (.lst (ls.map MV.int)), o2, o], h, [0]⟩ := fun o => run_maxL (by simp) ne
      have i2 : ∀ o, gIdx (.sl 1) [.int (maxI ls)] ⟨[b, some (.lst (ls.map MV.int)), o2, o], h, [0]⟩ = .ok (.int (ls.idxOf (maxI ls) : Nat)) ⟨[b, some (.lst (ls.map MV.int)), o2, o], h, [0]⟩ := fun o => run_idx (by simp) mx
      have i3 : L2.atI (ls.map MV.int) (ls.idxOf (maxI ls) : Nat) = some (.int (maxI ls)) := by
        rw [at_nat, List.getElem?_map, je]
        rfl
      have i4 : ixN (ls.map MV.int).length (ls.idxOf (maxI ls) : Nat) = some (ls.idxOf (maxI ls)) := ixN_nat (by simpa using jl)
      have i5 : (ls.map MV.int).set (ls.idxOf (maxI ls)) (.int (maxI ls - 1)) = (ls.set (ls.idxOf (maxI ls)) (maxI ls - 1)).map MV.int := by rw [List.map_set]
      generalize ls.idxOf (maxI ls) = j at jl je i2 i3 i4 i5
      have sm := sum_set ls j _ (maxI ls - 1) je
      have s0 := sum_nonneg ls fun l m => (hb l m).1
      obtain ⟨ls', o3', e, q1, q2⟩ := wl_loop (b := b) (o2 := o2) (h := h) g (ls.set j (maxI ls - 1)) (some (.int (j : Nat))) ⟨by simpa using n1, by simpa using n3, fun l m => by
        rcases List.mem_or_eq_of_mem_set m with m | rfl
        · exact hb l m
        · omega⟩ (by
          have : 1 ≤ ls.sum := by
            rcases Int.lt_or_le ls.sum 1 with c | c
            · have := List.mem_of_getElem? je
              have z : ∀ (ks : List Int), (∀ l ∈ ks, 0 ≤ l) → ∀ x ∈ ks, x ≤ ks.sum := fun ks => by
                induction ks with
                | nil => exact fun _ _ m => nomatch m
                | cons k ks ih =>
                  intro hk x m
                  have t := sum_nonneg ks fun l m => hk l (List.mem_cons_of_mem _ m)
                  have t2 := hk k List.mem_cons_self
                  rcases List.mem_cons.mp m with rfl | m
                  · simp; omega
                  · have := ih (fun l m => hk l (List.mem_cons_of_mem _ m)) x m
                    simp; omega
              have := z ls (fun l m => (hb l m).1) _ this
              omega
            · exact c
          omega)
      refine ⟨ls', o3', ?_, q1, q2⟩
      rw [← e]
      generalize whileG u__law_lengths_1 l__law_lengths_2 g = KK
      generalize hLS : ls.map MV.int = LS at i1 i2 i3 i4 i5
      simp [l__law_lengths_2, i1, i2, i3, i4, i5]
end K17

set_option maxHeartbeats 2000000
namespace K17
open PySem PySem.Spec L2 Mir
theorem pull3 (many place a c : Int) (xs : List Int) (h0 : 0 < many) (h1 : many < 18446744073709551616) (hp : place < 1000000) (hl : xs.length ≤ 1000) : ∃ (r a' : Int) (xs' : List Int), m__law_pull [.lst [.ref 0, .int a, .int c], .int many, .int place] [.lst (xs.map MV.int)] = .ok (.int r) [some (.lst [.ref 0, .int a', .int c]), none, none] [.lst (xs'.map MV.int)] ∧ 0 ≤ r ∧ r < many ∧ xs'.length ≤ 1000 := pull_ok h0 h1 hp hl
theorem len_loop {o2 o3 : Option MV} {c : Int} : ∀ (ks : List MV) (a : Int) (xs ls : List Int) (o2 : Option MV), (∀ k ∈ ks, k.slotable = true) → xs.length ≤ 1000 → (∀ l ∈ ls, 0 ≤ l ∧ l ≤ 12) → ls.length + ks.length ≤ 1000 →
    ∃ (a' : Int) (xs' ls' : List Int) (o2' : Option MV), loopM t__law_lengths_1 l__law_lengths_1 ks ⟨[some (bagV a c), some (.lst (ls.map MV.int)), o2, o3], bagH xs, [0]⟩ = .nx ⟨[some (bagV a' c), some (.lst (ls'.map MV.int)), o2', o3], bagH xs', [0]⟩ ∧ xs'.length ≤ 1000 ∧ (∀ l ∈ ls', 0 ≤ l ∧ l ≤ 12) ∧ ls'.length = ls.length + ks.length
  | [], a, xs, ls, o2, _, hx, hb, _ => ⟨a, xs, ls, o2, rfl, hx, hb, rfl⟩
  | k :: ks, a, xs, ls, o2, hk, hx, hb, hs => by
    have hk0 := hk k List.mem_cons_self
    obtain ⟨r, a1, xs1, e1, r0, r1, hx1⟩ := pull3 8 2 a c xs (by decide) (by decide) (by decide) hx
    rw [List.length_cons] at hs
    obtain ⟨a', xs', ls', o2', e, q1, q2, q3⟩ := len_loop (o2 := o2) (o3 := o3) (c := c) ks a1 xs1 (ls ++ [r]) (some k) (fun x m => hk x (List.mem_cons_of_mem _ m)) hx1 (fun l m => by
      rcases List.mem_append.mp m with m | m
      · exact hb l m
      · rw [List.mem_singleton.mp m]; omega) (by simp; omega)
    refine ⟨a', xs', ls', o2', ?_, q1, q2, by simp at q3 ⊢; omega⟩
    rw [loop_step (s1 := ⟨[some (bagV a c), some (.lst (ls.map MV.int)), some k, o3], bagH xs, [0]⟩) (by simp [t__law_lengths_1, hk0]), ← e]
    generalize loopM t__law_lengths_1 l__law_lengths_1 ks = KK
    have hz : ls.length < 16777216 := by omega
    simp [l__law_lengths_1, e1, hz]
def presets : List (List Int) := [[12], [9, 2, 1], [4, 3, 5], [3, 4, 5], [7, 4, 1], [0, 11], [0, 0, 0], [11, 1], [5, 5, 2], [10, 2], [2, 3, 7], [7, 2, 3]]
def presetV : List MV := [.tup [.int 12], .tup [.int 9, .int 2, .int 1], .tup [.int 4, .int 3, .int 5], .tup [.int 3, .int 4, .int 5], .tup [.int 7, .int 4, .int 1], .tup [.int 0, .int 11], .tup [.int 0, .int 0, .int 0], .tup [.int 11, .int 1], .tup [.int 5, .int 5, .int 2], .tup [.int 10, .int 2], .tup [.int 2, .int 3, .int 7], .tup [.int 7, .int 2, .int 3]]
theorem preset_eq : presetV = presets.map fun l => .tup (l.map MV.int) := rfl
theorem preset_good : ∀ l ∈ presets, (1 ≤ l.length ∧ l.length ≤ 3 ∧ ∀ x ∈ l, 0 ≤ x ∧ x ≤ 12) := by decide
theorem preset_at {r : Int} (h0 : 0 ≤ r) (h1 : r < 12) : ∃ l, L2.atI presetV r = some (.tup (l.map MV.int)) ∧ good l := by
  obtain ⟨k, rfl⟩ := Int.eq_ofNat_of_zero_le h0
  have hk : k < presets.length := by show k < 12; omega
  refine ⟨presets[k], ?_, preset_good _ (List.getElem_mem hk)⟩
  rw [at_nat, preset_eq, List.getElem?_map, List.getElem?_eq_getElem hk]
  rfl
theorem bound_small {n : Int} (h : -1000000 ≤ n) (h2 : n ≤ 1000000) : bound62 n = true := bound62_of (by omega) (by omega)
theorem good_sum {ls : List Int} (h : good ls) : ls.sum.toNat < GAS := by
  obtain ⟨_, h3, hb⟩ := h
  have : ls.sum ≤ 36 := by
    match ls, h3 with
    | [], _ => decide
    | [a], _ =>
      have := hb a (by simp)
      simp; omega
    | [a, b], _ =>
      have := hb a (by simp)
      have := hb b (by simp)
      simp; omega
    | [a, b, c], _ =>
      have := hb a (by simp)
      have := hb b (by simp)
      have := hb c (by simp)
      simp; omega
  have hG : GAS = 1099511627776 := rfl
  omega
theorem lengths_ok {a c : Int} {xs : List Int} (hx : xs.length ≤ 1000) : ∃ (ls : List Int) (a' : Int) (xs' : List Int), m__law_lengths [bagV a c] (bagH xs) = .ok (.tup (ls.map MV.int)) [some (bagV a' c)] (bagH xs') ∧ xs'.length ≤ 1000 ∧ good ls ∧ ls.sum ≤ 12 := by
  obtain ⟨r, a1, xs1, e1, r0, r1, hx1⟩ := pull3 3 1 a c xs (by decide) (by decide) (by decide) hx
  obtain ⟨a2, xs2, ls2, o2, e2, hx2, hb2, hl2⟩ := len_loop (o2 := none) (o3 := none) (c := c) (rgM 0 (1 + r).toNat) a1 xs1 [] none (fun k m => by
    obtain ⟨i, _, rfl⟩ := List.mem_map.mp m
    rfl) hx1 (fun _ m => nomatch m) (by simp [rgM]; omega)
  obtain ⟨q, a3, xs3, e3, q0, q1, hx3⟩ := pull3 3 0 a2 c xs2 (by decide) (by decide) (by decide) hx2
  have hlen2 : ls2.length = (1 + r).toNat := by simpa [rgM] using hl2
  have b1 : bound62 (1 + r) = true := bound_small (by omega) (by omega)
  simp only [List.map_nil, bagV, bagH] at e2
  by_cases hq : q = 0
  · obtain ⟨z, a4, xs4, e4, z0, z1, hx4⟩ := pull3 12 0 a3 c xs3 (by decide) (by decide) (by decide) hx3
    obtain ⟨l, pl, gl⟩ := preset_at z0 z1
    obtain ⟨ls', o3', e5, g5, s5⟩ := wl_loop (b := some (bagV a4 c)) (o2 := o2) (h := bagH xs4) GAS l none gl (good_sum gl)
    refine ⟨ls', a4, xs4, ?_, hx4, g5, s5⟩
    simp only [bagV, bagH] at e5
    unfold presetV at pl
    simp [m__law_lengths, b__law_lengths, run_while, e1, b1, e2, e3, hq, e4, pl, e5]
  · obtain ⟨ls', o3', e5, g5, s5⟩ := wl_loop (b := some (bagV a3 c)) (o2 := o2) (h := bagH xs3) GAS ls2 none ⟨by omega, by omega, hb2⟩ (good_sum ⟨by omega, by omega, hb2⟩)
    refine ⟨ls', a3, xs3, ?_, hx3, g5, s5⟩
    simp only [bagV, bagH] at e5
    simp [m__law_lengths, b__law_lengths, run_while, e1, b1, e2, e3, hq, e5]
/-! _law_bag -/
theorem sl60 {σ : List (Option MV)} {h : List MO} {p : List Nat} {ns : List Int} (e : σ[0]? = some (some (.ext (ns.map MV.int)))) : mSl (mVar 0) none (some (mC (.int 60))) ⟨σ, h, p⟩ = .ok (.lst ((ns.take 60).map MV.int)) ⟨σ, h, p⟩ := by
  have e1 : mVar 0 ⟨σ, h, p⟩ = .ok (.ext (ns.map MV.int)) ⟨σ, h, p⟩ := by rw [run_var', e]; rfl
  have e2 : cutM (ns.map MV.int) none (some 60) = (ns.take 60).map MV.int := by
    unfold cutM HT.sIx
    simp
  show (mVar 0 ⟨σ, h, p⟩).thn _ = _
  rw [e1]
  show Res.ok (MV.lst (cutM (ns.map MV.int) none (some 60))) _ = _
  rw [e2]
theorem bag_ok {ns : List Int} (hl : ns.length ≤ 63) : ∃ (a c : Int) (xs : List Int), m__law_bag [.ext (ns.map MV.int)] [] = .ok (bagV a c) [none] (bagH xs) ∧ xs.length ≤ 1000 := by
  obtain ⟨a', xs', o2', o3', e, q⟩ := bag_loop (some (.ext (ns.map MV.int))) (ns.take 60) 17011 [] none none (by simp; omega)
  refine ⟨a', a' / 3, xs', ?_, by simp at q; omega⟩
  have hs := sl60 (σ := [some (.ext (ns.map MV.int)), some (.lst [.ref 0, .int 17011, .int 0]), none, none]) (h := [.lst []]) (p := [0]) (ns := ns) rfl
  simp only [bagV, bagH, List.map_nil] at e
  simp only [List.map_take] at e hs
  simp [m__law_bag, b__law_bag, e, hs]
end K17

set_option maxHeartbeats 2000000
namespace K17
open PySem PySem.Spec L2 Mir
/-! _law_triangle(40) -/
def rowV (r : List Int) : MV := .ro (r.map MV.int)
def triI : List (List Int) := (List.range 41).map fun n => (List.range (n + 1)).map fun k => lotsI (n : Nat) (k : Nat)
theorem tri_ok (h : List MO) : m__law_triangle [.int 40] h = .ok (.lst (triI.map rowV)) [none] h := by kernel_rfl
theorem tri_at {n k : Nat} (hn : n ≤ 40) (hk : k ≤ n) : L2.atI (triI.map rowV) (n : Nat) = some (rowV ((List.range (n + 1)).map fun k => lotsI (n : Nat) (k : Nat))) ∧ L2.atI (((List.range (n + 1)).map fun k => lotsI (n : Nat) (k : Nat)).map MV.int) (k : Nat) = some (.int (lotsI n k)) := by
  constructor
  · rw [at_nat, List.getElem?_map]
    unfold triI
    rw [List.getElem?_map, List.getElem?_range (by omega)]
    rfl
  · rw [at_nat, List.getElem?_map, List.getElem?_map, List.getElem?_range (by omega)]
    rfl
/-! facts of the numbers of lots -/
def symB : Bool := (List.range 41).all fun n => (List.range (n + 1)).all fun k => decide (lotsI (n : Nat) ((n : Nat) - (k : Nat)) = lotsI (n : Nat) (k : Nat))
theorem sym_ok : symB = true := by decide +kernel
theorem lots_sym {n k : Nat} (hn : n ≤ 40) (hk : k ≤ n) : lotsI (n : Nat) ((n : Nat) - (k : Nat) : Int) = lotsI (n : Nat) (k : Nat) := by
  have h := List.all_eq_true.mp (List.all_eq_true.mp sym_ok n (List.mem_range.mpr (by omega))) k (List.mem_range.mpr (by omega))
  exact of_decide_eq_true h
def smallB : Bool := (List.range 13).all fun n => (List.range (n + 1)).all fun k => decide ((lotsI (n : Nat) (k : Nat)).natAbs < 1000)
theorem small_ok : smallB = true := by decide +kernel
theorem lots_small {n k : Nat} (hn : n ≤ 12) (hk : k ≤ n) : (lotsI (n : Nat) (k : Nat)).natAbs < 1000 := by
  have h := List.all_eq_true.mp (List.all_eq_true.mp small_ok n (List.mem_range.mpr (by omega))) k (List.mem_range.mpr (by omega))
  exact of_decide_eq_true h
def rowSumB : Bool := (List.range 13).all fun n => decide (((List.range (n + 1)).map fun k => lotsI (n : Nat) (k : Nat)).sum = 2 ^ n)
theorem rowSum_ok : rowSumB = true := by decide +kernel
theorem row_sum {n : Nat} (hn : n ≤ 12) : ((List.range (n + 1)).map fun k => lotsI (n : Nat) (k : Nat)).sum = 2 ^ n := of_decide_eq_true (List.all_eq_true.mp rowSum_ok n (List.mem_range.mpr (by omega)))
theorem lots_neg {n k : Int} (h : k < 0) : lotsI n k = 0 := by
  unfold lotsI
  rw [if_neg (by omega)]
theorem lots_big {n k : Int} (h : n < k) : lotsI n k = 0 := by
  unfold lotsI
  rw [if_neg (by omega)]
/-! _law_lots -/
theorem due_eq {n k : Int} (h0 : 0 ≤ n) (h1 : n ≤ 40) : lotsI n (n - k) = lotsI n k := by
  obtain ⟨m, rfl⟩ := Int.eq_ofNat_of_zero_le h0
  rcases Int.lt_or_le k 0 with c | c
  · rw [lots_neg c, lots_big (by omega)]
  · rcases Int.lt_or_le (m : Int) k with d | d
    · rw [lots_big d, lots_neg (by omega)]
    · obtain ⟨j, rfl⟩ := Int.eq_ofNat_of_zero_le c
      exact lots_sym (by omega) (by omega)
theorem lots_turn {a c : Int} {xs : List Int} {o2 o3 o4 o5 : Option MV} (hx : xs.length ≤ 1000) : ∃ (a' : Int) (xs' : List Int) (o3' o4' o5' : Option MV), l__law_lots_1 ⟨[some (bagV a c), some (.lst (triI.map rowV)), o2, o3, o4, o5], bagH xs, [0, 1]⟩ = .nx ⟨[some (bagV a' c), some (.lst (triI.map rowV)), o2, o3', o4', o5'], bagH xs', [0, 1]⟩ ∧ xs'.length ≤ 1000 := by
  obtain ⟨n, a1, xs1, e1, n0, n1, hx1⟩ := pull3 41 3 a c xs (by decide) (by decide) (by decide) hx
  obtain ⟨q, a2, xs2, e2, q0, q1, hx2⟩ := pull3 (n + 9) 0 a1 c xs1 (by omega) (by omega) (by decide) hx1
  have l1 := fun k => lots_ok (h := [MO.lst (xs2.map MV.int)]) (many := n) (some := k) (by omega)
  have d1 := due_eq (n := n) (k := q - 4) n0 (by omega)
  have d2 : lotsI n (-1 - (q - 4) * (q - 4)) = 0 := lots_neg (by
    have : 0 ≤ (q - 4) * (q - 4) := by
      rcases Int.le_total 0 (q - 4) with z | z
      · exact Int.mul_nonneg z z
      · exact Int.mul_nonneg_of_nonpos_of_nonpos z z
    omega)
  have d3 : lotsI n (n + 1) = 0 := lots_big (by omega)
  have ms : (q - 4).natAbs < 18446744073709551616 := by omega
  have sm := same_ok (h := [MO.lst (xs2.map MV.int)]) (v := .tup [.int (lotsI n (q - 4)), .int (lotsI n (q - 4)), .int 0, .int 0]) rfl (by simp [szV, szVs])
  refine ⟨a2, xs2, some (.int n), some (.int (q - 4)), some (.int (lotsI n (q - 4))), ?_, hx2⟩
  generalize hk : q - 4 = k at *
  have mo : mulOk k k = true := mulOk_l ms
  by_cases c0 : 0 ≤ k
  · by_cases c1 : k ≤ n
    · obtain ⟨m, rfl⟩ := Int.eq_ofNat_of_zero_le n0
      obtain ⟨j, rfl⟩ := Int.eq_ofNat_of_zero_le c0
      obtain ⟨t1, t2⟩ := tri_at (n := m) (k := j) (by omega) (by omega)
      simp only [rowV] at t1
      generalize htri : triI.map rowV = TR at t1 ⊢
      generalize hrow : ((List.range (m + 1)).map fun k => lotsI (m : Nat) (k : Nat)).map MV.int = row at t1 t2
      simp [l__law_lots_1, e1, e2, hk, c1, t1, t2, l1, mo, d1, d2, d3, sm]
    · have z : lotsI n k = 0 := lots_big (by omega)
      rw [z] at sm d1 ⊢
      simp [l__law_lots_1, e1, e2, hk, c0, c1, l1, mo, d1, d2, d3, sm, z]
  · have z : lotsI n k = 0 := lots_neg (by omega)
    rw [z] at sm d1 ⊢
    simp [l__law_lots_1, e1, e2, hk, c0, l1, mo, d1, d2, d3, sm, z]
end K17

set_option maxHeartbeats 2000000
namespace K17
open PySem PySem.Spec L2 Mir
abbrev triV : MV := .lst (triI.map rowV)
theorem lots_loop6 {c : Int} {o2 : Option MV} : ∀ (ks : List MV) (a : Int) (xs : List Int) (o2 o3 o4 o5 : Option MV), (∀ k ∈ ks, k.slotable = true) → xs.length ≤ 1000 →
    ∃ (a' : Int) (xs' : List Int) (o2' o3' o4' o5' : Option MV), loopM t__law_lots_1 l__law_lots_1 ks ⟨[some (bagV a c), some triV, o2, o3, o4, o5], bagH xs, [0, 1]⟩ = .nx ⟨[some (bagV a' c), some triV, o2', o3', o4', o5'], bagH xs', [0, 1]⟩ ∧ xs'.length ≤ 1000
  | [], a, xs, o2, o3, o4, o5, _, hx => ⟨a, xs, o2, o3, o4, o5, rfl, hx⟩
  | k :: ks, a, xs, o2, o3, o4, o5, hk, hx => by
    have hk0 := hk k List.mem_cons_self
    obtain ⟨a1, xs1, p3, p4, p5, e1, hx1⟩ := lots_turn (a := a) (c := c) (o2 := some k) (o3 := o3) (o4 := o4) (o5 := o5) hx
    obtain ⟨a', xs', p2', p3', p4', p5', e, hx'⟩ := lots_loop6 (o2 := o2) (c := c) ks a1 xs1 (some k) p3 p4 p5 (fun x m => hk x (List.mem_cons_of_mem _ m)) hx1
    refine ⟨a', xs', p2', p3', p4', p5', ?_, hx'⟩
    rw [loop_step (s1 := ⟨[some (bagV a c), some triV, some k, o3, o4, o5], bagH xs, [0, 1]⟩) (by simp [t__law_lots_1, hk0]), e1, turn_nx, e]
theorem rg_slot {lo : Int} {n : Nat} : ∀ k ∈ rgM lo n, k.slotable = true := fun k m => by
  obtain ⟨i, _, rfl⟩ := List.mem_map.mp m
  rfl
theorem lawlots_ok {a c : Int} {xs : List Int} (hx : xs.length ≤ 1000) : ∃ (a' : Int) (xs' : List Int), m__law_lots [bagV a c, triV] (bagH xs) = .ok (.bl true) [some (bagV a' c), some triV] (bagH xs') ∧ xs'.length ≤ 1000 := by
  obtain ⟨a', xs', p2', p3', p4', p5', e, hx'⟩ := lots_loop6 (o2 := none) (c := c) (rgM 0 6) a xs none none none none rg_slot hx
  refine ⟨a', xs', ?_, hx'⟩
  have b : bound62 6 = true := by decide
  simp only [bagV, bagH, triV] at e ⊢
  generalize triI.map rowV = TR at e ⊢
  simp [m__law_lots, b__law_lots, b, e]
/-! the scene -/
/-- reversed: products, places -/
def prodR : List Int → List Int → Int
  | l :: la, r :: ra => prodR la ra * lotsI l r
  | _, _ => 1
def placeR : List Int → List Int → Int
  | l :: la, r :: ra => placeR la ra * (l + 1) + r
  | _, _ => 0
theorem zip_rev {l r : Int} {la ra : List Int} (h : la.length = ra.length) : (l :: la).reverse.zip (r :: ra).reverse = la.reverse.zip ra.reverse ++ [(l, r)] := by
  rw [List.reverse_cons, List.reverse_cons, List.zip_append (by simp [h])]
  rfl
theorem prod_rev : ∀ (la ra : List Int), la.length = ra.length → ((la.reverse.zip ra.reverse).map lotsQ).foldl (· * ·) 1 = prodR la ra
  | [], [], _ => rfl
  | [], _ :: _, h => by simp at h
  | _ :: _, [], h => by simp at h
  | l :: la, r :: ra, h => by
    have h' : la.length = ra.length := by simpa using h
    rw [zip_rev h', List.map_append, List.foldl_append, prod_rev la ra h']
    rfl
theorem place_rev : ∀ (la ra : List Int), la.length = ra.length → (la.reverse.zip ra.reverse).foldl placeF 0 = placeR la ra
  | [], [], _ => rfl
  | [], _ :: _, h => by simp at h
  | _ :: _, [], h => by simp at h
  | l :: la, r :: ra, h => by
    have h' : la.length = ra.length := by simpa using h
    rw [zip_rev h', List.foldl_append, place_rev la ra h']
    rfl
theorem flat_get {l : Int} (h0 : 0 ≤ l) : ∀ (E : List (List Int)) (i : Nat) (v : List Int), (E.flatMap (blk l))[i]? = some v → ∃ (q a : Nat) (u : List Int), E[q]? = some u ∧ v = (a : Int) :: u ∧ i = q * (l + 1).toNat + a ∧ a < (l + 1).toNat
  | [], i, v, h => by simp at h
  | e :: E, i, v, h => by
    rw [List.flatMap_cons] at h
    by_cases c : i < (l + 1).toNat
    · rw [List.getElem?_append_left (by rw [blk_len]; exact c), blk_get, if_pos c] at h
      cases h
      exact ⟨0, i, e, rfl, rfl, by omega, c⟩
    · rw [List.getElem?_append_right (by rw [blk_len]; omega), blk_len] at h
      obtain ⟨q, a, u, h1, h2, h3, h4⟩ := flat_get h0 E _ v h
      exact ⟨q + 1, a, u, by simpa using h1, h2, by rw [Nat.add_mul, Nat.one_mul]; omega, h4⟩
theorem enum_place : ∀ (la : List Int), (∀ l ∈ la, 0 ≤ l) → ∀ (i : Nat) (v : List Int), (enumR la)[i]? = some v → placeR la v = i
  | [], _, i, v, h => by
    have : i = 0 := by
      have := (List.getElem?_eq_some_iff.mp h).1
      simp [enumR] at this
      exact this
    subst this
    cases h
    rfl
  | l :: la, hl, i, v, h => by
    have h0 := hl l List.mem_cons_self
    obtain ⟨q, a, u, h1, rfl, h3, h4⟩ := flat_get h0 (enumR la) i v h
    have ih := enum_place la (fun x m => hl x (List.mem_cons_of_mem _ m)) q u h1
    show placeR la u * (l + 1) + (a : Int) = (i : Int)
    rw [ih, h3]
    have : (((l + 1).toNat : Nat) : Int) = l + 1 := Int.toNat_of_nonneg (by omega)
    rw [Int.natCast_add, Int.natCast_mul, this]
theorem enum_le : ∀ (la : List Int), (∀ l ∈ la, 0 ≤ l) → ∀ v ∈ enumR la, ∀ p ∈ la.zip v, 0 ≤ p.2 ∧ p.2 ≤ p.1
  | [], _, v, m, p, hp => by simp at hp
  | l :: la, hl, v, m, p, hp => by
    have h0 := hl l List.mem_cons_self
    obtain ⟨u, mu, mv⟩ := List.mem_flatMap.mp m
    obtain ⟨a, ma, rfl⟩ := List.mem_map.mp mv
    have := List.mem_range.mp ma
    rw [List.zip_cons_cons] at hp
    rcases List.mem_cons.mp hp with rfl | hp
    · exact ⟨by show 0 ≤ (a : Int); omega, by show (a : Int) ≤ l; omega⟩
    · exact enum_le la (fun x m => hl x (List.mem_cons_of_mem _ m)) u mu p hp
/-- the sum of all of them -/
theorem sum_mul (k : Int) : ∀ ls : List Int, (ls.map fun x => k * x).sum = k * ls.sum
  | [] => by simp
  | x :: ls => by
    simp [sum_mul k ls, Int.mul_add]
theorem enum_sum : ∀ (la : List Int), (∀ l ∈ la, 0 ≤ l ∧ l ≤ 12) → ((enumR la).map (prodR la)).sum = 2 ^ (la.sum).toNat
  | [], _ => rfl
  | l :: la, hl => by
    have h0 := hl l List.mem_cons_self
    obtain ⟨n, rfl⟩ := Int.eq_ofNat_of_zero_le h0.1
    have hls : ∀ x ∈ la, 0 ≤ x ∧ x ≤ 12 := fun x m => hl x (List.mem_cons_of_mem _ m)
    have ih := enum_sum la hls
    have rs := row_sum (n := n) (by omega)
    have step : ∀ E : List (List Int), ((E.flatMap (blk (n : Int))).map (prodR ((n : Int) :: la))).sum = (E.map (prodR la)).sum * 2 ^ n := fun E => by
      induction E with
      | nil => simp
      | cons v E ihE =>
        have b : ((blk (n : Int) v).map (prodR ((n : Int) :: la))).sum = prodR la v * 2 ^ n := by
          have hn : ((n : Int) + 1).toNat = n + 1 := by omega
          unfold blk
          rw [hn, List.map_map]
          have f : (prodR ((n : Int) :: la) ∘ fun (a : Nat) => (a : Int) :: v) = (fun x => prodR la v * x) ∘ fun (k : Nat) => lotsI (n : Nat) (k : Nat) := rfl
          rw [f, ← List.map_map, sum_mul, rs]
        rw [List.flatMap_cons, List.map_append, List.sum_append, ihE, b, List.map_cons, List.sum_cons, Int.add_mul]
    show (((enumR la).flatMap (blk (n : Int))).map (prodR ((n : Int) :: la))).sum = _
    rw [step, ih]
    have s0 := sum_nonneg la fun x m => (hls x m).1
    have : ((n : Int) :: la).sum.toNat = la.sum.toNat + n := by
      rw [List.sum_cons]
      omega
    rw [this, Int.pow_add]
end K17

set_option maxHeartbeats 2000000
namespace K17
open PySem PySem.Spec L2 Mir
theorem wh_loop {b o4 : Option MV} {h : List MO} {L v : List Int} {VS : List MV} {at_ : Nat} (hv : VS[at_]? = some (vecV v)) (hq : ∀ p ∈ L.zip v, 0 ≤ p.2 ∧ p.2 ≤ p.1) (hL : ∀ l ∈ L, l ≤ 12) (hlen : L.length = v.length) : ∀ (ks : List Nat) (acc : Int) (o7 : Option MV), (∀ k ∈ ks, k < L.length) →
    ∃ o7', loopM t__law_scene_1 l__law_scene_1 (ks.map fun (k : Nat) => .int (0 + (k : Int))) ⟨[b, some triV, some (.tup (L.map MV.int)), some (.lst VS), o4, some (.int (at_ : Nat)), some (.int acc), o7], h, [0, 1]⟩ =
      .nx ⟨[b, some triV, some (.tup (L.map MV.int)), some (.lst VS), o4, some (.int (at_ : Nat)), some (.int (ks.foldl (fun a k => a * lotsQ (L.getD k 0, v.getD k 0)) acc)), o7'], h, [0, 1]⟩
  | [], acc, o7, _ => ⟨o7, rfl⟩
  | k :: ks, acc, o7, hk => by
    have k0 := hk k List.mem_cons_self
    have kv : k < v.length := by omega
    have mz : (L[k], v[k]) ∈ L.zip v := by
      refine List.mem_of_getElem? (i := k) ?_
      rw [List.getElem?_zip_eq_some]
      exact ⟨List.getElem?_eq_getElem k0, List.getElem?_eq_getElem kv⟩
    obtain ⟨q0, q1⟩ := hq _ mz
    dsimp only at q0 q1
    have q2 := hL _ (List.getElem_mem k0)
    have gl : L.getD k 0 = L[k] := by simp [List.getD, k0]
    have gv : v.getD k 0 = v[k] := by simp [List.getD, kv]
    have a1 : L2.atI (L.map MV.int) (k : Nat) = some (.int L[k]) := by
      rw [at_nat, List.getElem?_map, List.getElem?_eq_getElem k0]
      rfl
    have a2 : L2.atI (v.map MV.int) (k : Nat) = some (.int v[k]) := by
      rw [at_nat, List.getElem?_map, List.getElem?_eq_getElem kv]
      rfl
    have a3 : L2.atI VS (at_ : Nat) = some (.tup (v.map MV.int)) := by rw [at_nat, hv]; rfl
    obtain ⟨o7', e⟩ := wh_loop (b := b) (o4 := o4) (h := h) hv hq hL hlen ks (acc * lotsI L[k] v[k]) (some (.int (k : Nat))) fun x m => hk x (List.mem_cons_of_mem _ m)
    refine ⟨o7', ?_⟩
    rw [List.map_cons, loop_step (s1 := ⟨[b, some triV, some (.tup (L.map MV.int)), some (.lst VS), o4, some (.int (at_ : Nat)), some (.int acc), some (.int (k : Nat))], h, [0, 1]⟩) (by simp [t__law_scene_1])]
    have fe : (k :: ks).foldl (fun a k => a * lotsQ (L.getD k 0, v.getD k 0)) acc = ks.foldl (fun a k => a * lotsQ (L.getD k 0, v.getD k 0)) (acc * lotsI L[k] v[k]) := by
      rw [List.foldl_cons, gl, gv]
      rfl
    rw [fe, ← e]
    generalize loopM t__law_scene_1 l__law_scene_1 (ks.map fun (k : Nat) => MV.int (0 + (k : Int))) = KK
    generalize hl : L[k] = x at *
    generalize hw : v[k] = y at *
    obtain ⟨n, rfl⟩ := Int.eq_ofNat_of_zero_le (show 0 ≤ x by omega)
    obtain ⟨m, rfl⟩ := Int.eq_ofNat_of_zero_le q0
    obtain ⟨t1, t2⟩ := tri_at (n := n) (k := m) (by omega) (by omega)
    have mo : mulOk acc (lotsI (n : Nat) (m : Nat)) = true := mulOk_r (by have := lots_small (n := n) (k := m) (by omega) (by omega); omega)
    simp only [rowV, triV] at t1 ⊢
    generalize htri : (triI.map fun r => MV.ro (r.map MV.int)) = TR at t1 ⊢
    generalize hrow : ((List.range (n + 1)).map fun k => lotsI (n : Nat) (k : Nat)).map MV.int = row at t1 t2
    generalize L.map MV.int = LM at a1 ⊢
    simp [l__law_scene_1, a1, a2, a3, t1, t2, mo]
theorem range_zip {L v : List Int} (hlen : L.length = v.length) : (List.range L.length).foldl (fun a k => a * lotsQ (L.getD k 0, v.getD k 0)) 1 = ((L.zip v).map lotsQ).foldl (· * ·) 1 := by
  have e : (L.zip v).map lotsQ = (List.range L.length).map fun k => lotsQ (L.getD k 0, v.getD k 0) := by
    refine List.ext_getElem? fun i => ?_
    rw [List.getElem?_map, List.getElem?_map]
    by_cases c : i < L.length
    · have cv : i < v.length := by omega
      rw [List.getElem?_range c]
      have : (L.zip v)[i]? = some (L[i], v[i]) := List.getElem?_zip_eq_some.mpr ⟨List.getElem?_eq_getElem c, List.getElem?_eq_getElem cv⟩
      rw [this]
      simp [List.getD, c, cv]
    · rw [List.getElem?_eq_none (by simp; omega), List.getElem?_eq_none (by simp; omega)]
      rfl
  rw [e, List.foldl_map]
theorem in_two {i a b : Int} {s : Sm} : ∃ k, oIn (.int i) (.tup [.int a, .int b]) s = .ok (.bl k) s := ⟨_, rfl⟩
end K17

set_option maxHeartbeats 2000000
namespace K17
open PySem PySem.Spec L2 Mir
theorem zip_small {L v : List Int} (hq : ∀ p ∈ L.zip v, 0 ≤ p.2 ∧ p.2 ≤ p.1) (hL : ∀ l ∈ L, 0 ≤ l ∧ l ≤ 12) : ∀ q ∈ L.zip v, (lotsQ q).natAbs < 18446744073709551616 := fun q m => by
  obtain ⟨q0, q1⟩ := hq q m
  have q2 := hL _ (List.of_mem_zip m).1
  obtain ⟨x, y⟩ := q
  dsimp only at q0 q1 q2
  obtain ⟨n, rfl⟩ := Int.eq_ofNat_of_zero_le q2.1
  obtain ⟨k, rfl⟩ := Int.eq_ofNat_of_zero_le q0
  have := lots_small (n := n) (k := k) (by omega) (by omega)
  show (lotsI (n : Nat) (k : Nat)).natAbs < _
  omega
theorem scene_turn {a c tot W : Int} {xs L v : List Int} {VS : List MV} {at_ : Nat} {o6 o7 : Option MV} (hx : xs.length ≤ 1000) (hv : VS[at_]? = some (vecV v)) (hq : ∀ p ∈ L.zip v, 0 ≤ p.2 ∧ p.2 ≤ p.1) (hL : ∀ l ∈ L, 0 ≤ l ∧ l ≤ 12) (hlen : L.length = v.length) (h3 : L.length ≤ 3)
    (hw : ((L.zip v).map lotsQ).foldl (· * ·) 1 = W) (hp : (L.zip v).foldl placeF 0 = (at_ : Nat)) :
    ∃ (a' : Int) (xs' : List Int) (o6' o7' : Option MV), l__law_scene_2 ⟨[some (bagV a c), some triV, some (.tup (L.map MV.int)), some (.lst VS), some (.int tot), some (.int (at_ : Nat)), o6, o7], bagH xs, [0, 1]⟩ =
      .nx ⟨[some (bagV a' c), some triV, some (.tup (L.map MV.int)), some (.lst VS), some (.int (tot + W)), some (.int (at_ : Nat)), o6', o7'], bagH xs', [0, 1]⟩ ∧ xs'.length ≤ 1000 := by
  obtain ⟨o7', e1⟩ := wh_loop (b := some (bagV a c)) (o4 := some (.int tot)) (h := bagH xs) hv hq (fun l m => (hL l m).2) hlen (List.range L.length) 1 o7 fun k m => List.mem_range.mp m
  rw [range_zip hlen, hw] at e1
  have rg : (List.range L.length).map (fun (k : Nat) => MV.int (0 + (k : Int))) = rgM 0 L.length := rfl
  rw [rg] at e1
  have b1 : bound62 (L.length : Int) = true := bound_small (by omega) (by omega)
  have ll : (L.map MV.int).length = L.length := by simp
  have a3 : L2.atI VS (at_ : Nat) = some (.tup (v.map MV.int)) := by rw [at_nat, hv]; rfl
  have hx1 : ∀ l ∈ L, l.natAbs < 1000000 := fun l m => by
    have := hL l m
    omega
  have wo := fun h => whole_ok (h := h) (ls := L) (vs := v) hx1 (zip_small hq hL) (by rw [List.length_zip]; omega)
  have po := fun h => place_ok (h := h) (ls := L) (vs := v) hx1
  rw [hw] at wo
  rw [hp] at po
  have so := fun h => same_ok (h := h) (v := .tup [.int W, .int (at_ : Nat)]) rfl (by simp [szV, szVs])
  obtain ⟨kin, ein⟩ := in_two (i := (at_ : Nat)) (a := 0) (b := (VS.length : Int) - 1) (s := ⟨[some (bagV a c), some triV, some (.tup (L.map MV.int)), some (.lst VS), some (.int (tot + W)), some (.int (at_ : Nat)), some (.int W), o7'], bagH xs, [0, 1]⟩)
  simp only [bagV, bagH, triV] at e1 ein ⊢
  generalize triI.map rowV = TR at e1 ein ⊢
  generalize hLM : L.map MV.int = LM at e1 ein wo po ll ⊢
  cases kin with
  | true =>
    refine ⟨a, xs, some (.int W), o7', ?_, hx⟩
    simp [l__law_scene_2, ll, b1, e1, ein, a3, wo, po, so]
  | false =>
    obtain ⟨r, a1, xs1, e2, r0, r1, hx1⟩ := pull3 4 0 a c xs (by decide) (by decide) (by decide) hx
    refine ⟨a1, xs1, some (.int W), o7', ?_, hx1⟩
    by_cases hr : r = 0
    · simp [l__law_scene_2, ll, b1, e1, ein, e2, hr, a3, wo, po, so]
    · simp [l__law_scene_2, ll, b1, e1, ein, e2, hr, a3, wo, po, so]
/-- the turns of a scene -/
theorem scene_loop {c : Int} {L : List Int} {VS : List MV} {at_ : Nat} (W : Nat → Int) (hL : ∀ l ∈ L, 0 ≤ l ∧ l ≤ 12) (h3 : L.length ≤ 3)
    (hv : ∀ i, i < VS.length → ∃ v, VS[i]? = some (vecV v) ∧ (∀ p ∈ L.zip v, 0 ≤ p.2 ∧ p.2 ≤ p.1) ∧ L.length = v.length ∧ ((L.zip v).map lotsQ).foldl (· * ·) 1 = W i ∧ (L.zip v).foldl placeF 0 = (i : Nat)) :
    ∀ (ks : List Nat) (a tot : Int) (xs : List Int) (o5 o6 o7 : Option MV), (∀ k ∈ ks, k < VS.length) → xs.length ≤ 1000 →
    ∃ (a' : Int) (xs' : List Int) (o5' o6' o7' : Option MV), loopM t__law_scene_2 l__law_scene_2 (ks.map fun (k : Nat) => .int (0 + (k : Int))) ⟨[some (bagV a c), some triV, some (.tup (L.map MV.int)), some (.lst VS), some (.int tot), o5, o6, o7], bagH xs, [0, 1]⟩ =
      .nx ⟨[some (bagV a' c), some triV, some (.tup (L.map MV.int)), some (.lst VS), some (.int (tot + (ks.map W).sum)), o5', o6', o7'], bagH xs', [0, 1]⟩ ∧ xs'.length ≤ 1000
  | [], a, tot, xs, o5, o6, o7, _, hx => ⟨a, xs, o5, o6, o7, by simp, hx⟩
  | k :: ks, a, tot, xs, o5, o6, o7, hk, hx => by
    obtain ⟨v, v1, v2, v3, v4, v5⟩ := hv k (hk k List.mem_cons_self)
    obtain ⟨a1, xs1, p6, p7, e1, hx1⟩ := scene_turn (a := a) (c := c) (tot := tot) (o6 := o6) (o7 := o7) hx v1 v2 hL v3 h3 v4 v5
    obtain ⟨a', xs', o5', o6', o7', e, hx'⟩ := scene_loop (at_ := at_) (c := c) W hL h3 hv ks a1 (tot + W k) xs1 (some (.int (k : Nat))) p6 p7 (fun x m => hk x (List.mem_cons_of_mem _ m)) hx1
    refine ⟨a', xs', o5', o6', o7', ?_, hx'⟩
    rw [List.map_cons, loop_step (s1 := ⟨[some (bagV a c), some triV, some (.tup (L.map MV.int)), some (.lst VS), some (.int tot), some (.int (k : Nat)), o6, o7], bagH xs, [0, 1]⟩) (by simp [t__law_scene_2]), e1, turn_nx, e, List.map_cons, List.sum_cons, Int.add_assoc]
theorem okVs_vec : ∀ E : List (List Int), okVs (E.map vecV) = true
  | [] => rfl
  | v :: E => by
    have h : ∀ v : List Int, okVs (v.map MV.int) = true := fun v => by
      induction v with
      | nil => rfl
      | cons x v ih => simp [okVs, okV, ih]
    simp [okVs, okV, vecV, h, okVs_vec E]
theorem szVs_vec {k : Nat} : ∀ E : List (List Int), (∀ v ∈ E, v.length = k) → szVs (E.map vecV) = E.length * (k + 1)
  | [], _ => by simp [szVs]
  | v :: E, h => by
    have h1 : ∀ v : List Int, szVs (v.map MV.int) = v.length := fun v => by
      induction v with
      | nil => rfl
      | cons x v ih => simp [szVs, szV, ih]; omega
    have h2 := h v List.mem_cons_self
    rw [List.map_cons, szVs, szVs_vec E fun x m => h x (List.mem_cons_of_mem _ m)]
    show 1 + szVs (v.map MV.int) + _ = _
    rw [h1, h2, List.length_cons, Nat.add_mul]
    omega
end K17

set_option maxHeartbeats 2000000
namespace K17
open PySem PySem.Spec L2 Mir
theorem sum_rev : ∀ ls : List Int, ls.reverse.sum = ls.sum
  | [] => rfl
  | x :: ls => by
    rw [List.reverse_cons, List.sum_append, sum_rev ls]
    simp
    omega
theorem vprod_le {ls : List Int} (h3 : ls.length ≤ 3) (hb : ∀ l ∈ ls, 0 ≤ l ∧ l ≤ 12) : vprod ls ≤ 2197 := by
  have f : ∀ l : Int, l ∈ ls → (l + 1).toNat ≤ 13 := fun l m => by
    have := hb l m
    omega
  match ls, h3 with
  | [], _ => decide
  | [a], _ =>
    have := f a (by simp)
    simp [vprod]; omega
  | [a, b], _ =>
    have h1 := f a (by simp)
    have h2 := f b (by simp)
    have := Nat.mul_le_mul h1 h2
    simp [vprod]; omega
  | [a, b, c], _ =>
    have h1 := f a (by simp)
    have h2 := f b (by simp)
    have h3 := f c (by simp)
    have := Nat.mul_le_mul h1 (Nat.mul_le_mul h2 h3)
    simp [vprod]; omega
def wR (la : List Int) (i : Nat) : Int := match (enumR la)[i]? with
  | some ra => prodR la ra
  | none => 0
theorem wR_sum (la : List Int) : ((List.range (enumR la).length).map (wR la)).sum = ((enumR la).map (prodR la)).sum := by
  congr 1
  refine List.ext_getElem? fun i => ?_
  rw [List.getElem?_map, List.getElem?_map]
  by_cases c : i < (enumR la).length
  · rw [List.getElem?_range c, List.getElem?_eq_getElem c]
    show some (wR la i) = some (prodR la (enumR la)[i])
    unfold wR
    rw [List.getElem?_eq_getElem c]
  · rw [List.getElem?_eq_none (by simp; omega), List.getElem?_eq_none (by omega)]
    rfl
theorem scene_ok {a c : Int} {xs : List Int} (hx : xs.length ≤ 1000) : ∃ (a' : Int) (xs' : List Int), m__law_scene [bagV a c, triV] (bagH xs) = .ok (.bl true) [some (bagV a' c), some triV] (bagH xs') ∧ xs'.length ≤ 1000 := by
  obtain ⟨ls, a1, xs1, e1, hx1, ⟨g1, g3, gb⟩, gs⟩ := lengths_ok (a := a) (c := c) hx
  obtain ⟨la, hla⟩ : ∃ la, ls = la.reverse := ⟨ls.reverse, by simp⟩
  have lb : ∀ l ∈ la, 0 ≤ l ∧ l ≤ 12 := fun l m => gb l (by rw [hla]; simpa using m)
  have l0 : ∀ l ∈ la, 0 ≤ l := fun l m => (lb l m).1
  have ll : ls.length = la.length := by rw [hla]; simp
  have vp := vprod_le (ls := la) (by omega) lb
  have vp2 := vprod_le g3 gb
  have el := enum_len la
  have hE := all_enum la
  rw [← hla] at hE
  have e2 := lall_ok (h := bagH xs1) l0 (by omega) (by omega)
  have e3 := vectors_ok (h := bagH xs1) (ls := ls) (fun l m => by have := gb l m; omega) (by omega) (by omega)
  rw [← hla] at e2
  have hVS : (enumR la).map (fun v => vecV v.reverse) = ((enumR la).map List.reverse).map vecV := by rw [List.map_map]; rfl
  rw [hVS] at e2
  rw [hE] at e3
  have lens : ∀ v ∈ (enumR la).map List.reverse, v.length = la.length := fun v m => by
    obtain ⟨u, mu, rfl⟩ := List.mem_map.mp m
    rw [List.length_reverse]
    exact enum_lens la u mu
  have so := same_ok (h := bagH xs1) (v := .tup (((enumR la).map List.reverse).map vecV)) (okVs_vec _) (by
    show 1 + szVs _ ≤ _
    rw [szVs_vec _ lens, List.length_map, el]
    have : vprod la * (la.length + 1) ≤ 2197 * 4 := Nat.mul_le_mul vp (by omega)
    omega)
  have hn : (((enumR la).map List.reverse).map vecV).length = vprod la := by simp [el]
  obtain ⟨a2, xs2, p5, p6, p7, e4, hx2⟩ := scene_loop (at_ := 0) (c := c) (L := ls) (VS := ((enumR la).map List.reverse).map vecV) (wR la) gb g3 (fun i hi => by
    have hi' : i < (enumR la).length := by simpa using hi
    refine ⟨(enumR la)[i].reverse, by simp [hi'], ?_, ?_, ?_, ?_⟩
    · intro p hp
      have hz := enum_le la l0 _ (List.getElem_mem hi')
      have hrev : ls.zip (enumR la)[i].reverse = (la.zip (enumR la)[i]).reverse := by
        have h1 := enum_lens la _ (List.getElem_mem hi')
        rw [hla, List.zip_eq_zipWith, List.zip_eq_zipWith, List.reverse_zipWith h1.symm]
      rw [hrev] at hp
      exact hz p (List.mem_reverse.mp hp)
    · rw [List.length_reverse, enum_lens la _ (List.getElem_mem hi'), ll]
    · rw [hla, prod_rev la _ (enum_lens la _ (List.getElem_mem hi')).symm]
      unfold wR
      rw [List.getElem?_eq_getElem hi']
    · rw [hla, place_rev la _ (enum_lens la _ (List.getElem_mem hi')).symm]
      exact enum_place la l0 i _ (List.getElem?_eq_getElem hi')) (List.range (vprod la)) a1 0 xs1 none none none (fun k m => by rw [hn]; exact List.mem_range.mp m) hx1
  have tot : (0 : Int) + ((List.range (vprod la)).map (wR la)).sum = 2 ^ ls.sum.toNat := by
    rw [← el, wR_sum, enum_sum la lb, hla, sum_rev]
    omega
  rw [tot] at e4
  refine ⟨a2, xs2, ?_, hx2⟩
  have rg : (List.range (vprod la)).map (fun (k : Nat) => MV.int (0 + (k : Int))) = rgM 0 (vprod la) := rfl
  rw [rg] at e4
  have b1 : bound62 (vprod la : Int) = true := bound_small (by omega) (by omega)
  have s0 := sum_nonneg ls fun l m => (gb l m).1
  have sm : ∀ s, gSum (.tup (ls.map MV.int)) s = .ok (.int ls.sum) s := fun s => run_sum rfl
  have sh : ∀ s, iShl (.int 1) (.int ls.sum) s = .ok (.int (1 * 2 ^ ls.sum.toNat)) s := fun s => run_iShl' s0 (by omega) (by decide)
  simp only [bagV, bagH, triV] at e1 e2 e3 so e4 ⊢
  generalize triI.map rowV = TR at e4 ⊢
  generalize ((enumR la).map List.reverse).map vecV = VS at e2 e3 so e4 hn
  generalize ls.map MV.int = LM at e1 e2 e3 e4 sm
  simp [m__law_scene, b__law_scene, e1, e2, e3, so, hn, b1, e4, sm, sh]
end K17

set_option maxHeartbeats 2000000
namespace K17
open PySem PySem.Spec L2 Mir
def wsA : MS := mSet 1 (m2 oIx (mL gTupM (mCons (mL gTupM (mCons (mC (.int 2)) (mCons (mC (.int 1)) mNil))) (mCons (mL gTupM (mCons (mC (.int 3)) mNil)) (mCons (mL gTupM (mCons (mC (.int 1)) (mCons (mC (.int 0)) (mCons (mC (.int 2)) mNil)))) (mCons (mL gTupM (mCons (mC (.int 0)) mNil)) (mCons (mL gTupM (mCons (mC (.int 1)) (mCons (mC (.int 1)) (mCons (mC (.int 1)) mNil)))) mNil)))))) (mCall 3 [.int 0] m__law_pull (mCons (mVar 0) (mCons (mC (.int 5)) mNil))))
def wsR : MS := mSeq (mSet 2 (mCall 1 [] m__law_all (mCons (mVar 1) mNil))) (mSeq (mPar 3 4 (mCons (mL gLstM mNil) (mCons (mL gLstM mNil) mNil))) (mSeq (mFor (mIter (mVar 2)) t__law_whole_sum_1 l__law_whole_sum_1) (mSeq (mIfS (tNotM (mTru (mCall 2 [] m__law_same (mCons (mL (onL gTuple) (mCons (mVar 3) mNil)) (mCons (m1 gTRg (mL (onL gLen) (mCons (mVar 2) mNil))) mNil))))) (mRet (mC (.bl false))) mNext) (mSeq (mFor (mItL gRange1 (mCons (mL (onL gLen) (mCons (mVar 2) mNil)) mNil)) t__law_whole_sum_5 l__law_whole_sum_5) (mRet (mC (.bl true)))))))
theorem ws_eq : b__law_whole_sum = mSeq wsA wsR := rfl
def wsL : List (List Int) := [[2, 1], [3], [1, 0, 2], [0], [1, 1, 1]]
abbrev wsS (B : List MV) (L : List Int) (h : List MO) : Sm := ⟨[some (.lst B), some (.tup (L.map MV.int)), none, none, none, none, none, none, none, none, none, none, none, none, none], h, [0]⟩
theorem ws0 (B : List MV) (h : List MO) : (wsR (wsS B [2, 1] h)).fin [0] 1 = .ok (.bl true) [some (.lst B)] h := by kernel_rfl
theorem ws1 (B : List MV) (h : List MO) : (wsR (wsS B [3] h)).fin [0] 1 = .ok (.bl true) [some (.lst B)] h := by kernel_rfl
theorem ws2 (B : List MV) (h : List MO) : (wsR (wsS B [1, 0, 2] h)).fin [0] 1 = .ok (.bl true) [some (.lst B)] h := by kernel_rfl
theorem ws3 (B : List MV) (h : List MO) : (wsR (wsS B [0] h)).fin [0] 1 = .ok (.bl true) [some (.lst B)] h := by kernel_rfl
theorem ws4 (B : List MV) (h : List MO) : (wsR (wsS B [1, 1, 1] h)).fin [0] 1 = .ok (.bl true) [some (.lst B)] h := by kernel_rfl
theorem ws_ok {a c : Int} {xs : List Int} (hx : xs.length ≤ 1000) : ∃ (a' : Int) (xs' : List Int), m__law_whole_sum [bagV a c] (bagH xs) = .ok (.bl true) [some (bagV a' c)] (bagH xs') ∧ xs'.length ≤ 1000 := by
  obtain ⟨r, a1, xs1, e1, r0, r1, hx1⟩ := pull3 5 0 a c xs (by decide) (by decide) (by decide) hx
  refine ⟨a1, xs1, ?_, hx1⟩
  have hr : r = 0 ∨ r = 1 ∨ r = 2 ∨ r = 3 ∨ r = 4 := by omega
  have go : ∀ L : List Int, L2.atI ([.tup [.int 2, .int 1], .tup [.int 3], .tup [.int 1, .int 0, .int 2], .tup [.int 0], .tup [.int 1, .int 1, .int 1]] : List MV) r = some (.tup (L.map MV.int)) → (wsR (wsS [.ref 0, .int a1, .int c] L [.lst (xs1.map MV.int)])).fin [0] 1 = .ok (.bl true) [some (.lst [.ref 0, .int a1, .int c])] [.lst (xs1.map MV.int)] → m__law_whole_sum [bagV a c] (bagH xs) = .ok (.bl true) [some (bagV a1 c)] (bagH xs1) := fun L hL hw => by
    have st : wsA ⟨[some (.lst [.ref 0, .int a, .int c]), none, none, none, none, none, none, none, none, none, none, none, none, none, none], [.lst (xs.map MV.int)], [0]⟩ = .nx (wsS [.ref 0, .int a1, .int c] L [.lst (xs1.map MV.int)]) := by
      simp [wsA, e1, hL]
    unfold m__law_whole_sum
    rw [ws_eq, Mir.run_fn]
    show Out.fin [0] 1 (mSeq wsA wsR ⟨[some (.lst [.ref 0, .int a, .int c]), none, none, none, none, none, none, none, none, none, none, none, none, none, none], [.lst (xs.map MV.int)], [0]⟩) = _
    rw [run_seq, st, othn_nx]
    exact hw
  rcases hr with rfl | rfl | rfl | rfl | rfl
  · exact go [2, 1] (by simp) (ws0 _ _)
  · exact go [3] (by simp) (ws1 _ _)
  · exact go [1, 0, 2] (by simp) (ws2 _ _)
  · exact go [0] (by simp) (ws3 _ _)
  · exact go [1, 1, 1] (by simp) (ws4 _ _)
/-! the hand, the law -/
theorem hand_ok (rows : List MV) (h : List MO) : m__law_hand [.lst rows] h = .ok (.bl true) [some (.lst rows)] h := by kernel_rfl
theorem plain_law (ns : List Int) (hl : ns.length ≤ 63) : ∃ fin h, m_law [.ext (ns.map MV.int)] [] = .ok (.bl true) fin h := by
  obtain ⟨a, c, xs, e1, hx⟩ := bag_ok hl
  have e2 := tri_ok (bagH xs)
  have e3 := hand_ok (triI.map rowV) (bagH xs)
  obtain ⟨a4, xs4, e4, hx4⟩ := ws_ok (a := a) (c := c) hx
  obtain ⟨a5, xs5, e5, hx5⟩ := scene_ok (a := a4) (c := c) hx4
  obtain ⟨a6, xs6, e6, hx6⟩ := scene_ok (a := a5) (c := c) hx5
  obtain ⟨a7, xs7, e7, hx7⟩ := scene_ok (a := a6) (c := c) hx6
  obtain ⟨a8, xs8, e8, hx8⟩ := lawlots_ok (a := a7) (c := c) hx7
  have b3 : bound62 3 = true := by decide
  have r3 : rgM 0 3 = [.int 0, .int 1, .int 2] := rfl
  have lp : ∀ k : Int, t_law_1 (.int k) = tgName 3 (.int k) := fun k => rfl
  refine ⟨[none], [.lst (xs8.map MV.int)], ?_⟩
  simp only [bagV, bagH, triV] at e1 e2 e3 e4 e5 e6 e7 e8
  generalize triI.map rowV = TR at e2 e3 e5 e6 e7 e8
  have lps : ∀ o, loopM t_law_1 l_law_1 [.int 0, .int 1, .int 2] ⟨[some (.ext (ns.map MV.int)), some (.lst [.ref 0, .int a4, .int c]), some (.lst TR), o], [.lst (xs4.map MV.int)], [0]⟩ = .nx ⟨[some (.ext (ns.map MV.int)), some (.lst [.ref 0, .int a7, .int c]), some (.lst TR), some (.int 2)], [.lst (xs7.map MV.int)], [0]⟩ := fun o => by
    rw [loop_step (s1 := ⟨[some (.ext (ns.map MV.int)), some (.lst [.ref 0, .int a4, .int c]), some (.lst TR), some (.int 0)], [.lst (xs4.map MV.int)], [0]⟩) (by simp [t_law_1])]
    rw [show l_law_1 ⟨[some (.ext (ns.map MV.int)), some (.lst [.ref 0, .int a4, .int c]), some (.lst TR), some (.int 0)], [.lst (xs4.map MV.int)], [0]⟩ = .nx ⟨[some (.ext (ns.map MV.int)), some (.lst [.ref 0, .int a5, .int c]), some (.lst TR), some (.int 0)], [.lst (xs5.map MV.int)], [0]⟩ from by simp [l_law_1, e5], turn_nx]
    rw [loop_step (s1 := ⟨[some (.ext (ns.map MV.int)), some (.lst [.ref 0, .int a5, .int c]), some (.lst TR), some (.int 1)], [.lst (xs5.map MV.int)], [0]⟩) (by simp [t_law_1])]
    rw [show l_law_1 ⟨[some (.ext (ns.map MV.int)), some (.lst [.ref 0, .int a5, .int c]), some (.lst TR), some (.int 1)], [.lst (xs5.map MV.int)], [0]⟩ = .nx ⟨[some (.ext (ns.map MV.int)), some (.lst [.ref 0, .int a6, .int c]), some (.lst TR), some (.int 1)], [.lst (xs6.map MV.int)], [0]⟩ from by simp [l_law_1, e6], turn_nx]
    rw [loop_step (s1 := ⟨[some (.ext (ns.map MV.int)), some (.lst [.ref 0, .int a6, .int c]), some (.lst TR), some (.int 2)], [.lst (xs6.map MV.int)], [0]⟩) (by simp [t_law_1])]
    rw [show l_law_1 ⟨[some (.ext (ns.map MV.int)), some (.lst [.ref 0, .int a6, .int c]), some (.lst TR), some (.int 2)], [.lst (xs6.map MV.int)], [0]⟩ = .nx ⟨[some (.ext (ns.map MV.int)), some (.lst [.ref 0, .int a7, .int c]), some (.lst TR), some (.int 2)], [.lst (xs7.map MV.int)], [0]⟩ from by simp [l_law_1, e7], turn_nx]
    rfl
  simp [m_law, b_law, e1, e2, e3, e4, b3, r3, lps, e8]
end K17

set_option maxHeartbeats 4000000
namespace K17
open PySem PySem.Spec L2 Mir
def ca0 : Str → Option Addr := fun _ => none
theorem all_mk {l : PySem.W.OpenLaw} {w : World} {K : PySem.W.Frag} {h : Heap} {mg : Str → Option Value} {fa : Addr} (X : K.In h) (G : h.Ns mainGlobals mg) (hfa : mg "law" = some (.ref fa))
    {f0 f1 f2 f3 f4 f5 T5 f6 f7 f8 f9 f10 f11 f12 f13 f14 f15 f16 f17 : Addr} {od0 an0 od1 an1 od2 an2 od3 an3 od4 an4 od5 an5 td5 od6 an6 od7 an7 od8 an8 od9 an9 od10 an10 od11 an11 od12 an12 od13 an13 od14 an14 od15 an15 od16 an16 od17 an17 : Option Addr} {sl0 sl1 sl2 sl3 sl4 sl5 tsl5 sl6 sl7 sl8 sl9 sl10 sl11 sl12 sl13 sl14 sl15 sl16 sl17 : Array (Option Value)} {oc0 kV0 dc0 pm0 cd0 ct0 oc1 kV1 dc1 pm1 cd1 ct1 oc2 kV2 dc2 pm2 cd2 ct2 oc3 kV3 dc3 pm3 cd3 ct3 oc4 kV4 dc4 pm4 cd4 ct4 oc5 kV5 dc5 pm5 cd5 ct5 tc5 oc6 kV6 dc6 pm6 cd6 ct6 oc7 kV7 dc7 pm7 cd7 ct7 oc8 kV8 dc8 pm8 cd8 ct8 oc9 kV9 dc9 pm9 cd9 ct9 oc10 kV10 dc10 pm10 cd10 ct10 oc11 kV11 dc11 pm11 cd11 ct11 oc12 kV12 dc12 pm12 cd12 ct12 oc13 kV13 dc13 pm13 cd13 ct13 oc14 kV14 dc14 pm14 cd14 ct14 oc15 kV15 dc15 pm15 cd15 ct15 oc16 kV16 dc16 pm16 cd16 ct16 oc17 kV17 dc17 pm17 cd17 ct17 : Value} {tk_5_0 : Tok} {nn5 : Nat}
    (a0 : PySem.W.nsIn K mainGlobals "product_of" = some (some (.ref f0)))
    (l0 : K.lookup f0 = some ⟨oc0, od0, .func (PySem.W.fnOf "product_of" "product_of" (defArgs s_product_of) (defBody s_product_of) (defScope s_product_of) .none kV0 dc0 pm0 an0 cd0 ct0), sl0⟩)
    (c0 : PySem.W.codeIn K cd0 "product_of" = true)
    (k0 : PySem.W.keepIn K (.ref f0) = true)
    (a1 : PySem.W.nsIn K mainGlobals "lots_number" = some (some (.ref f1)))
    (l1 : K.lookup f1 = some ⟨oc1, od1, .func (PySem.W.fnOf "lots_number" "lots_number" (defArgs s_lots_number) (defBody s_lots_number) (defScope s_lots_number) .none kV1 dc1 pm1 an1 cd1 ct1), sl1⟩)
    (c1 : PySem.W.codeIn K cd1 "lots_number" = true)
    (k1 : PySem.W.keepIn K (.ref f1) = true)
    (a2 : PySem.W.nsIn K mainGlobals "vectors_of" = some (some (.ref f2)))
    (l2 : K.lookup f2 = some ⟨oc2, od2, .func (PySem.W.fnOf "vectors_of" "vectors_of" (defArgs s_vectors_of) (defBody s_vectors_of) (defScope s_vectors_of) .none kV2 dc2 pm2 an2 cd2 ct2), sl2⟩)
    (c2 : PySem.W.codeIn K cd2 "vectors_of" = true)
    (k2 : PySem.W.keepIn K (.ref f2) = true)
    (a3 : PySem.W.nsIn K mainGlobals "vector_place" = some (some (.ref f3)))
    (l3 : K.lookup f3 = some ⟨oc3, od3, .func (PySem.W.fnOf "vector_place" "vector_place" (defArgs s_vector_place) (defBody s_vector_place) (defScope s_vector_place) .none kV3 dc3 pm3 an3 cd3 ct3), sl3⟩)
    (c3 : PySem.W.codeIn K cd3 "vector_place" = true)
    (k3 : PySem.W.keepIn K (.ref f3) = true)
    (a4 : PySem.W.nsIn K mainGlobals "_law_bag" = some (some (.ref f4)))
    (l4 : K.lookup f4 = some ⟨oc4, od4, .func (PySem.W.fnOf "_law_bag" "_law_bag" (defArgs s__law_bag) (defBody s__law_bag) (defScope s__law_bag) .none kV4 dc4 pm4 an4 cd4 ct4), sl4⟩)
    (c4 : PySem.W.codeIn K cd4 "_law_bag" = true)
    (k4 : PySem.W.keepIn K (.ref f4) = true)
    (a5 : PySem.W.nsIn K mainGlobals "_law_pull" = some (some (.ref f5)))
    (l5 : K.lookup f5 = some ⟨oc5, od5, .func (PySem.W.fnOf "_law_pull" "_law_pull" (defArgs s__law_pull) (defBody s__law_pull) (defScope s__law_pull) (.ref T5) kV5 dc5 pm5 an5 cd5 ct5), sl5⟩)
    (c5 : PySem.W.codeIn K cd5 "_law_pull" = true)
    (k5 : PySem.W.keepIn K (.ref f5) = true)
    (t5 : K.lookup T5 = some ⟨tc5, td5, .seq #[.int 0 tk_5_0] nn5, tsl5⟩)
    (a6 : PySem.W.nsIn K mainGlobals "_law_same" = some (some (.ref f6)))
    (l6 : K.lookup f6 = some ⟨oc6, od6, .func (PySem.W.fnOf "_law_same" "_law_same" (defArgs s__law_same) (defBody s__law_same) (defScope s__law_same) .none kV6 dc6 pm6 an6 cd6 ct6), sl6⟩)
    (c6 : PySem.W.codeIn K cd6 "_law_same" = true)
    (k6 : PySem.W.keepIn K (.ref f6) = true)
    (a7 : PySem.W.nsIn K mainGlobals "_law_next" = some (some (.ref f7)))
    (l7 : K.lookup f7 = some ⟨oc7, od7, .func (PySem.W.fnOf "_law_next" "_law_next" (defArgs s__law_next) (defBody s__law_next) (defScope s__law_next) .none kV7 dc7 pm7 an7 cd7 ct7), sl7⟩)
    (c7 : PySem.W.codeIn K cd7 "_law_next" = true)
    (k7 : PySem.W.keepIn K (.ref f7) = true)
    (a8 : PySem.W.nsIn K mainGlobals "_law_triangle" = some (some (.ref f8)))
    (l8 : K.lookup f8 = some ⟨oc8, od8, .func (PySem.W.fnOf "_law_triangle" "_law_triangle" (defArgs s__law_triangle) (defBody s__law_triangle) (defScope s__law_triangle) .none kV8 dc8 pm8 an8 cd8 ct8), sl8⟩)
    (c8 : PySem.W.codeIn K cd8 "_law_triangle" = true)
    (k8 : PySem.W.keepIn K (.ref f8) = true)
    (a9 : PySem.W.nsIn K mainGlobals "_law_many" = some (some (.ref f9)))
    (l9 : K.lookup f9 = some ⟨oc9, od9, .func (PySem.W.fnOf "_law_many" "_law_many" (defArgs s__law_many) (defBody s__law_many) (defScope s__law_many) .none kV9 dc9 pm9 an9 cd9 ct9), sl9⟩)
    (c9 : PySem.W.codeIn K cd9 "_law_many" = true)
    (k9 : PySem.W.keepIn K (.ref f9) = true)
    (a10 : PySem.W.nsIn K mainGlobals "whole_of" = some (some (.ref f10)))
    (l10 : K.lookup f10 = some ⟨oc10, od10, .func (PySem.W.fnOf "whole_of" "whole_of" (defArgs s_whole_of) (defBody s_whole_of) (defScope s_whole_of) .none kV10 dc10 pm10 an10 cd10 ct10), sl10⟩)
    (c10 : PySem.W.codeIn K cd10 "whole_of" = true)
    (k10 : PySem.W.keepIn K (.ref f10) = true)
    (a11 : PySem.W.nsIn K mainGlobals "_law_all" = some (some (.ref f11)))
    (l11 : K.lookup f11 = some ⟨oc11, od11, .func (PySem.W.fnOf "_law_all" "_law_all" (defArgs s__law_all) (defBody s__law_all) (defScope s__law_all) .none kV11 dc11 pm11 an11 cd11 ct11), sl11⟩)
    (c11 : PySem.W.codeIn K cd11 "_law_all" = true)
    (k11 : PySem.W.keepIn K (.ref f11) = true)
    (a12 : PySem.W.nsIn K mainGlobals "_law_lengths" = some (some (.ref f12)))
    (l12 : K.lookup f12 = some ⟨oc12, od12, .func (PySem.W.fnOf "_law_lengths" "_law_lengths" (defArgs s__law_lengths) (defBody s__law_lengths) (defScope s__law_lengths) .none kV12 dc12 pm12 an12 cd12 ct12), sl12⟩)
    (c12 : PySem.W.codeIn K cd12 "_law_lengths" = true)
    (k12 : PySem.W.keepIn K (.ref f12) = true)
    (a13 : PySem.W.nsIn K mainGlobals "_law_lots" = some (some (.ref f13)))
    (l13 : K.lookup f13 = some ⟨oc13, od13, .func (PySem.W.fnOf "_law_lots" "_law_lots" (defArgs s__law_lots) (defBody s__law_lots) (defScope s__law_lots) .none kV13 dc13 pm13 an13 cd13 ct13), sl13⟩)
    (c13 : PySem.W.codeIn K cd13 "_law_lots" = true)
    (k13 : PySem.W.keepIn K (.ref f13) = true)
    (a14 : PySem.W.nsIn K mainGlobals "_law_scene" = some (some (.ref f14)))
    (l14 : K.lookup f14 = some ⟨oc14, od14, .func (PySem.W.fnOf "_law_scene" "_law_scene" (defArgs s__law_scene) (defBody s__law_scene) (defScope s__law_scene) .none kV14 dc14 pm14 an14 cd14 ct14), sl14⟩)
    (c14 : PySem.W.codeIn K cd14 "_law_scene" = true)
    (k14 : PySem.W.keepIn K (.ref f14) = true)
    (a15 : PySem.W.nsIn K mainGlobals "_law_whole_sum" = some (some (.ref f15)))
    (l15 : K.lookup f15 = some ⟨oc15, od15, .func (PySem.W.fnOf "_law_whole_sum" "_law_whole_sum" (defArgs s__law_whole_sum) (defBody s__law_whole_sum) (defScope s__law_whole_sum) .none kV15 dc15 pm15 an15 cd15 ct15), sl15⟩)
    (c15 : PySem.W.codeIn K cd15 "_law_whole_sum" = true)
    (k15 : PySem.W.keepIn K (.ref f15) = true)
    (a16 : PySem.W.nsIn K mainGlobals "_law_hand" = some (some (.ref f16)))
    (l16 : K.lookup f16 = some ⟨oc16, od16, .func (PySem.W.fnOf "_law_hand" "_law_hand" (defArgs s__law_hand) (defBody s__law_hand) (defScope s__law_hand) .none kV16 dc16 pm16 an16 cd16 ct16), sl16⟩)
    (c16 : PySem.W.codeIn K cd16 "_law_hand" = true)
    (k16 : PySem.W.keepIn K (.ref f16) = true)
    (a17 : PySem.W.nsIn K mainGlobals "law" = some (some (.ref f17)))
    (l17 : K.lookup f17 = some ⟨oc17, od17, .func (PySem.W.fnOf "law" "law" (defArgs s_law) (defBody s_law) (defScope s_law) .none kV17 dc17 pm17 an17 cd17 ct17), sl17⟩)
    (c17 : PySem.W.codeIn K cd17 "law" = true)
    (k17 : PySem.W.keepIn K (.ref f17) = true)
    (y_range : PySem.W.nsIn K mainGlobals "range" = some none)
    (y_min : PySem.W.nsIn K mainGlobals "min" = some none)
    (y_tuple : PySem.W.nsIn K mainGlobals "tuple" = some none)
    (y_zip : PySem.W.nsIn K mainGlobals "zip" = some none)
    (y_abs : PySem.W.nsIn K mainGlobals "abs" = some none)
    (y_int : PySem.W.nsIn K mainGlobals "int" = some none)
    (y_isinstance : PySem.W.nsIn K mainGlobals "isinstance" = some none)
    (y_len : PySem.W.nsIn K mainGlobals "len" = some none)
    (y_list : PySem.W.nsIn K mainGlobals "list" = some none)
    (y_bool : PySem.W.nsIn K mainGlobals "bool" = some none)
    (y_sum : PySem.W.nsIn K mainGlobals "sum" = some none)
    (y_max : PySem.W.nsIn K mainGlobals "max" = some none)
    : ∃ fd : FuncData, (∀ (s : Shared) (v : Value), BindsTo s fd ⟨[v], []⟩ [("script", v)]) ∧ ∀ base : Heap, K.In base → base.Ns mainGlobals mg → FnOk l.prog w K mg base (L2.CX l.prog w) 4 fa fd ["script"] (spM K ca0 1 m_law) := by
  have e := hfa.symm.trans (PySem.W.mg_of X G a17)
  cases e
  have z_range := PySem.W.mg_none_of X G y_range
  have z_min := PySem.W.mg_none_of X G y_min
  have z_tuple := PySem.W.mg_none_of X G y_tuple
  have z_zip := PySem.W.mg_none_of X G y_zip
  have z_abs := PySem.W.mg_none_of X G y_abs
  have z_int := PySem.W.mg_none_of X G y_int
  have z_isinstance := PySem.W.mg_none_of X G y_isinstance
  have z_len := PySem.W.mg_none_of X G y_len
  have z_list := PySem.W.mg_none_of X G y_list
  have z_bool := PySem.W.mg_none_of X G y_bool
  have z_sum := PySem.W.mg_none_of X G y_sum
  have z_max := PySem.W.mg_none_of X G y_max
  have F0 := funD0 (st := s_product_of) l0 c0 k0
  have F1 := funD0 (st := s_lots_number) l1 c1 k1
  have F2 := funD0 (st := s_vectors_of) l2 c2 k2
  have F3 := funD0 (st := s_vector_place) l3 c3 k3
  have F4 := funD0 (st := s__law_bag) l4 c4 k4
  have F5 := funD1 (st := s__law_pull) (dvs := [.int 0]) (its := [.int 0 tk_5_0]) l5 c5 k5 t5 (.cons (⟨_, rfl⟩) .nil) (by simp)
  have F6 := funD0 (st := s__law_same) l6 c6 k6
  have F7 := funD0 (st := s__law_next) l7 c7 k7
  have F8 := funD0 (st := s__law_triangle) l8 c8 k8
  have F9 := funD0 (st := s__law_many) l9 c9 k9
  have F10 := funD0 (st := s_whole_of) l10 c10 k10
  have F11 := funD0 (st := s__law_all) l11 c11 k11
  have F12 := funD0 (st := s__law_lengths) l12 c12 k12
  have F13 := funD0 (st := s__law_lots) l13 c13 k13
  have F14 := funD0 (st := s__law_scene) l14 c14 k14
  have F15 := funD0 (st := s__law_whole_sum) l15 c15 k15
  have F16 := funD0 (st := s__law_hand) l16 c16 k16
  have F17 := funD0 (st := s_law) l17 c17 k17
  refine ⟨_, fun s v => F17.bindsA (ps := ["script"]) (fun _ _ _ _ _ _ us hl => match us, hl with | [_], _ => rfl) s [v] rfl, fun base _ _ => ?_⟩
  have K0 := ok_product_of (P := l.prog) (w := w) (mg := mg) (base := base) (ca := ca0) F0
  have c_product_of_1 := cal0 K0 F0 (PySem.W.mg_of X G a0) fun _ _ _ _ _ _ us hl => match us, hl with | [_], _ => rfl
  have K1 := ok_lots_number (P := l.prog) (w := w) (mg := mg) (base := base) (ca := ca0) F1 z_range z_min
  have c_lots_number_2 := cal0 K1 F1 (PySem.W.mg_of X G a1) fun _ _ _ _ _ _ us hl => match us, hl with | [_, _], _ => rfl
  have c_lots_number_k0 := calK_of (n := 0) (ks := ["many", "some"]) K1 F1 (PySem.W.mg_of X G a1) fun _ _ _ _ _ _ us ws h1 h2 => match us, ws, h1, h2 with | [], [_, _], _, _ => rfl
  have K2 := ok_vectors_of (P := l.prog) (w := w) (mg := mg) (base := base) (ca := ca0) F2 z_range z_tuple
  have c_vectors_of_1 := cal0 K2 F2 (PySem.W.mg_of X G a2) fun _ _ _ _ _ _ us hl => match us, hl with | [_], _ => rfl
  have c_vectors_of_k0 := calK_of (n := 0) (ks := ["lengths"]) K2 F2 (PySem.W.mg_of X G a2) fun _ _ _ _ _ _ us ws h1 h2 => match us, ws, h1, h2 with | [], [_], _, _ => rfl
  have K3 := ok_vector_place (P := l.prog) (w := w) (mg := mg) (base := base) (ca := ca0) F3 z_zip
  have c_vector_place_2 := cal0 K3 F3 (PySem.W.mg_of X G a3) fun _ _ _ _ _ _ us hl => match us, hl with | [_, _], _ => rfl
  have c_vector_place_k0 := calK_of (n := 0) (ks := ["lengths", "vector"]) K3 F3 (PySem.W.mg_of X G a3) fun _ _ _ _ _ _ us ws h1 h2 => match us, ws, h1, h2 with | [], [_, _], _, _ => rfl
  have K4 := ok__law_bag (P := l.prog) (w := w) (mg := mg) (base := base) (ca := ca0) F4 z_abs z_int
  have c__law_bag_1 := cal0 K4 F4 (PySem.W.mg_of X G a4) fun _ _ _ _ _ _ us hl => match us, hl with | [_], _ => rfl
  have K5 := ok__law_pull (P := l.prog) (w := w) (mg := mg) (base := base) (ca := ca0) F5 z_int
  have c__law_pull_3 := cal1 (dx := []) 3 1 K5 F5 (PySem.W.mg_of X G a5) (by simp) rfl (fun _ _ => .nil) rfl fun _ _ _ _ _ _ _ us its h1 h2 => match us, its, h1, h2 with | [_, _, _], [_], _, _ => ⟨_, rfl, rfl⟩
  have c__law_pull_2 := cal1 (dx := [.int 0]) 2 0 K5 F5 (PySem.W.mg_of X G a5) (by simp) rfl (fun _ _ => .cons0 .int .nil) rfl fun _ _ _ _ _ _ _ us its h1 h2 => match us, its, h1, h2 with | [_, _], [_], _, _ => ⟨_, rfl, rfl⟩
  have K6 := ok__law_same (P := l.prog) (w := w) (mg := mg) (base := base) (ca := ca0) F6 z_isinstance z_tuple z_len z_zip z_list z_int z_bool
  have c__law_same_2 := cal0 K6 F6 (PySem.W.mg_of X G a6) fun _ _ _ _ _ _ us hl => match us, hl with | [_, _], _ => rfl
  have K7 := ok__law_next (P := l.prog) (w := w) (mg := mg) (base := base) (ca := ca0) F7 z_list z_range z_len z_tuple
  have c__law_next_2 := cal0 K7 F7 (PySem.W.mg_of X G a7) fun _ _ _ _ _ _ us hl => match us, hl with | [_, _], _ => rfl
  have K8 := ok__law_triangle (P := l.prog) (w := w) (mg := mg) (base := base) (ca := ca0) F8 z_range z_len
  have c__law_triangle_1 := cal0 K8 F8 (PySem.W.mg_of X G a8) fun _ _ _ _ _ _ us hl => match us, hl with | [_], _ => rfl
  have K9 := ok__law_many (P := l.prog) (w := w) (mg := mg) (base := base) (ca := ca0) F9
  have c__law_many_1 := cal0 K9 F9 (PySem.W.mg_of X G a9) fun _ _ _ _ _ _ us hl => match us, hl with | [_], _ => rfl
  have K10 := ok_whole_of (P := l.prog) (w := w) (mg := mg) (base := base) (ca := ca0) F10 z_zip c_product_of_1 c_lots_number_2
  have c_whole_of_2 := cal0 K10 F10 (PySem.W.mg_of X G a10) fun _ _ _ _ _ _ us hl => match us, hl with | [_, _], _ => rfl
  have c_whole_of_k0 := calK_of (n := 0) (ks := ["lengths", "vector"]) K10 F10 (PySem.W.mg_of X G a10) fun _ _ _ _ _ _ us ws h1 h2 => match us, ws, h1, h2 with | [], [_, _], _, _ => rfl
  have K11 := ok__law_all (P := l.prog) (w := w) (mg := mg) (base := base) (ca := ca0) F11 z_len c__law_next_2
  have c__law_all_1 := cal0 K11 F11 (PySem.W.mg_of X G a11) fun _ _ _ _ _ _ us hl => match us, hl with | [_], _ => rfl
  have K12 := ok__law_lengths (P := l.prog) (w := w) (mg := mg) (base := base) (ca := ca0) F12 z_range z_list z_sum z_max z_tuple c__law_pull_3 c__law_pull_2 c__law_many_1
  have c__law_lengths_1 := cal0 K12 F12 (PySem.W.mg_of X G a12) fun _ _ _ _ _ _ us hl => match us, hl with | [_], _ => rfl
  have K13 := ok__law_lots (P := l.prog) (w := w) (mg := mg) (base := base) (ca := ca0) F13 z_range c__law_pull_3 c__law_pull_2 c__law_same_2 c_lots_number_2
  have c__law_lots_2 := cal0 K13 F13 (PySem.W.mg_of X G a13) fun _ _ _ _ _ _ us hl => match us, hl with | [_, _], _ => rfl
  have K14 := ok__law_scene (P := l.prog) (w := w) (mg := mg) (base := base) (ca := ca0) F14 z_tuple z_range z_len z_sum c__law_lengths_1 c__law_all_1 c__law_same_2 c_vectors_of_1 c__law_pull_2 c_vector_place_2 c_whole_of_2
  have c__law_scene_2 := cal0 K14 F14 (PySem.W.mg_of X G a14) fun _ _ _ _ _ _ us hl => match us, hl with | [_, _], _ => rfl
  have K15 := ok__law_whole_sum (P := l.prog) (w := w) (mg := mg) (base := base) (ca := ca0) F15 z_len z_range z_tuple z_sum z_int c__law_pull_2 c__law_all_1 c_vector_place_2 c_whole_of_2 c__law_same_2
  have c__law_whole_sum_1 := cal0 K15 F15 (PySem.W.mg_of X G a15) fun _ _ _ _ _ _ us hl => match us, hl with | [_], _ => rfl
  have K16 := ok__law_hand (P := l.prog) (w := w) (mg := mg) (base := base) (ca := ca0) F16 c_lots_number_k0 c_vector_place_k0 c_whole_of_k0 c_vectors_of_k0 c__law_same_2 c_lots_number_2 c_vector_place_2 c_whole_of_2 c_vectors_of_1
  have c__law_hand_1 := cal0 K16 F16 (PySem.W.mg_of X G a16) fun _ _ _ _ _ _ us hl => match us, hl with | [_], _ => rfl
  have K17 := ok_law (P := l.prog) (w := w) (mg := mg) (base := base) (ca := ca0) F17 z_range c__law_triangle_1 c__law_bag_1 c__law_whole_sum_1 c__law_hand_1 c__law_scene_2 c__law_lots_2
  exact K17
theorem walk {l : PySem.W.OpenLaw} {q : Program} {loose : List Str} {XP : (Str → Option Value) → Heap → Prop} {YP : World → Heap → Prop} {d : DefRec} {K : Params → PySem.W.Frag} (hn : l.most = some 63) (hdf : d.params.defaults = [])
    (hY : ∀ (w : World) (h : Heap), YP w h → (K w.params).In h) (plain : ∀ ns : List Int, ns.length ≤ 63 → ∃ fin h, m_law [.ext (ns.map MV.int)] [] = .ok (.bl true) fin h)
    (F : ∀ (w : World) (mg : Str → Option Value) (fa : Addr) (h : Heap), (K w.params).In h → h.Ns mainGlobals mg → mg d.name = some (.ref fa) →
      ∃ fd : FuncData, (∀ (s : Shared) (u : Value), BindsTo s fd ⟨[u], []⟩ [("script", u)]) ∧ ∀ base : Heap, (K w.params).In base → base.Ns mainGlobals mg → FnOk l.prog w (K w.params) mg base (L2.CX l.prog w) 4 fa fd ["script"] (spM (K w.params) ca0 1 m_law)) :
    PySem.W.WalkO q loose XP YP l.row.toRowW d [] (fun f vs => PySem.call f vs) :=
  L2.walk_of (n := 63) (k := 4) (x := "script") (CX := fun w => L2.CX l.prog w) (sp := fun w => spM (K w.params) ca0 1 m_law) hn (by decide) hdf ⟨rfl, by decide, by decide⟩ hY F (fun _ _ _ ns hl hO hS => law_in hO hS (plain ns hl)) fun _ _ _ _ _ ⟨_, _, _, _, _, _, _, _, _, _, _, _, z⟩ => z
end K17
set_option maxRecDepth 100000 in
set_option maxHeartbeats 0 in
open PySem PySem.W PyProof.Rows in
theorem PySem.Challenge.cw_fairbyheads_k17_vectors_holds : PySem.Challenge.rw_fairbyheads_k17_vectors.Holds := by
  w_on; o_law; k_head; (case hw => w_witness2)
  k_fill
  refine K17.walk (l := PySem.Challenge.rw_fairbyheads_k17_vectors) rfl rfl (fun w h Y => PySem.W.kIn_of Y) K17.plain_law ?F
  case F =>
    intro w mg fa h KX G hmg
    refine' K17.all_mk KX G hmg ?a0 ?l0 ?c0 ?k0 ?a1 ?l1 ?c1 ?k1 ?a2 ?l2 ?c2 ?k2 ?a3 ?l3 ?c3 ?k3 ?a4 ?l4 ?c4 ?k4 ?a5 ?l5 ?c5 ?k5 ?t5 ?a6 ?l6 ?c6 ?k6 ?a7 ?l7 ?c7 ?k7 ?a8 ?l8 ?c8 ?k8 ?a9 ?l9 ?c9 ?k9 ?a10 ?l10 ?c10 ?k10 ?a11 ?l11 ?c11 ?k11 ?a12 ?l12 ?c12 ?k12 ?a13 ?l13 ?c13 ?k13 ?a14 ?l14 ?c14 ?k14 ?a15 ?l15 ?c15 ?k15 ?a16 ?l16 ?c16 ?k16 ?a17 ?l17 ?c17 ?k17 ?y_range ?y_min ?y_tuple ?y_zip ?y_abs ?y_int ?y_isinstance ?y_len ?y_list ?y_bool ?y_sum ?y_max
    (case a0 => k_is)
    (case l0 => k_is)
    (case c0 => k_is)
    (case k0 => k_is)
    (case a1 => k_is)
    (case l1 => k_is)
    (case c1 => k_is)
    (case k1 => k_is)
    (case a2 => k_is)
    (case l2 => k_is)
    (case c2 => k_is)
    (case k2 => k_is)
    (case a3 => k_is)
    (case l3 => k_is)
    (case c3 => k_is)
    (case k3 => k_is)
    (case a4 => k_is)
    (case l4 => k_is)
    (case c4 => k_is)
    (case k4 => k_is)
    (case a5 => k_is)
    (case l5 => k_is)
    (case c5 => k_is)
    (case k5 => k_is)
    (case t5 => k_is)
    (case a6 => k_is)
    (case l6 => k_is)
    (case c6 => k_is)
    (case k6 => k_is)
    (case a7 => k_is)
    (case l7 => k_is)
    (case c7 => k_is)
    (case k7 => k_is)
    (case a8 => k_is)
    (case l8 => k_is)
    (case c8 => k_is)
    (case k8 => k_is)
    (case a9 => k_is)
    (case l9 => k_is)
    (case c9 => k_is)
    (case k9 => k_is)
    (case a10 => k_is)
    (case l10 => k_is)
    (case c10 => k_is)
    (case k10 => k_is)
    (case a11 => k_is)
    (case l11 => k_is)
    (case c11 => k_is)
    (case k11 => k_is)
    (case a12 => k_is)
    (case l12 => k_is)
    (case c12 => k_is)
    (case k12 => k_is)
    (case a13 => k_is)
    (case l13 => k_is)
    (case c13 => k_is)
    (case k13 => k_is)
    (case a14 => k_is)
    (case l14 => k_is)
    (case c14 => k_is)
    (case k14 => k_is)
    (case a15 => k_is)
    (case l15 => k_is)
    (case c15 => k_is)
    (case k15 => k_is)
    (case a16 => k_is)
    (case l16 => k_is)
    (case c16 => k_is)
    (case k16 => k_is)
    (case a17 => k_is)
    (case l17 => k_is)
    (case c17 => k_is)
    (case k17 => k_is)
    (case y_range => k_is)
    (case y_min => k_is)
    (case y_tuple => k_is)
    (case y_zip => k_is)
    (case y_abs => k_is)
    (case y_int => k_is)
    (case y_isinstance => k_is)
    (case y_len => k_is)
    (case y_list => k_is)
    (case y_bool => k_is)
    (case y_sum => k_is)
    (case y_max => k_is)

