import PyProof.Rows.All
import Wide.All
import OpenK.AllK
import Wide.FinOn
import HandS.Base
import HandS.Call
import HandS.List
import PyProof.GenRules
import PyProof.GenQ
import PyProof.Sound
import HandS.GenOver
import PyProof.Rows.RowBridgeG
import HandS.GenBody
import PyProof.EnumFor
import PyProof.EnumMake
import HandS.Exc
import HandS.GenList
import HandS.Iter
import HandS.Defaults
import PyProof.StrBlock2
import HandS.Comp
import HandS.Text
import HandS.Wide
import HandS.TupAny
import HandS.IsInst
import HandS.Flow
import HandS.More
import HandS.Style
import HandS.Star
import HandS.Walk
import HandS.Zip
import HandS.ClsMeth
import HandS.SlotsOwn
import HandS.FStr
import KE.GoesEnum
import HandS.AnyAll
import KE.KRevSl
import PyProof.FString3
import PyProof.FString5
import PyProof.Rows.StrIntSpec
import PyProof.FactsLen
import HandS.HeadHook1
import HandS.HeadHook2
import HandS.Head0
import HandS.Head1
import HandS.Head2
import HandS.HeadEnd
import HandS.Words
import PySem.Challenge.RW_calmtaps_k62_tables_of_boxes
-- VA
set_option Elab.async false
set_option linter.all false
set_option maxRecDepth 100000
set_option maxHeartbeats 2000000
namespace VI
open PySem PySem.Spec PyProof.Rows L2

/-! ### data: trees, and handles of what is changed in place -/
inductive D where
  | non | bl (b : Bool) | int (i : Int) | str (x : List Nat)
  | lst (xs : List D) | tup (xs : List D)
  | ins (c : Nat) (xs : List D)
  | hd (n : Nat)
/-- what a handle stands for -/
inductive Slot where
  | dead | lst (xs : List D) | ins (c : Nat) (xs : List D)
  /-- a list that is only read (the script) -/
  | ro (xs : List D)
abbrev Wd := List Slot
abbrev EnvD := List (Option D)
inductive Res (α : Type) where
  | ok (a : α) (W : Wd)
  | exc (c : Nat) (xs : List D) (W : Wd)
  | no
def Res.bind {α β : Type} (r : Res α) (f : α → Wd → Res β) : Res β := match r with
  | .ok a W => f a W
  | .exc c xs W => .exc c xs W
  | .no => .no

/-- the classes of the text: where they stand, the names of their fields -/
structure Cls_ where
  clsA : Nat → Addr
  flds : Nat → List Str

def KT (K : PySem.W.Frag) (a : Addr) (xs : List V) : Prop :=
  ∃ (o : Obj) (its : Array Value) (n : Nat), K.lookup a = some o ∧ o.cls = .type "tuple" ∧ o.data = .seq its n ∧ its.size ≤ sizeLine ∧ Vals xs its.toList

section
variable (K : PySem.W.Frag) (G : Cls_)
variable (F : Addr → Prop) (r : List Addr) (H : Hp)
mutual
def Rep : D → V → Prop
  | .non, v => v = .non
  | .bl b, v => v = .bl b
  | .int i, v => v = .int i
  | .str x, v => v = .str ⟨x.toArray⟩
  | .lst xs, v => ∃ a vs, v = .ref a ∧ F a ∧ H a = some (.lst vs) ∧ RepL xs vs
  | .tup xs, v => ∃ a vs, v = .ref a ∧ ((F a ∧ Rd H a (.tup vs)) ∨ KT K a vs) ∧ RepL xs vs
  | .ins c xs, v => ∃ a dx vs, v = .ref a ∧ F a ∧ H a = some (.ins (G.clsA c) dx ((G.flds c).zip vs)) ∧ RepL xs vs
  | .hd n, v => ∃ a, r[n]? = some a ∧ v = .ref a
def RepL : List D → List V → Prop
  | [], vs => vs = []
  | x :: xs, vs => ∃ v ws, vs = v :: ws ∧ Rep x v ∧ RepL xs ws
end
def RepS (s : Slot) (a : Addr) : Prop := match s with
  | .dead => True
  | .lst xs => ∃ vs, H a = some (.lst vs) ∧ RepL K G F r H xs vs
  | .ins c xs => ∃ dx vs, H a = some (.ins (G.clsA c) dx ((G.flds c).zip vs)) ∧ RepL K G F r H xs vs
  | .ro xs => ∃ o vs, H a = some (.frz o (.lst vs)) ∧ RepL K G F r H xs vs
structure RelW (W : Wd) : Prop where
  len : r.length = W.length
  nd : r.Nodup
  fr : ∀ a, F a → H a ≠ none
  rh : ∀ a, a ∈ r → H a ≠ none
  ok : ∀ (n : Nat) (s : Slot) (a : Addr), W[n]? = some s → r[n]? = some a → s = .dead ∨ (¬ F a ∧ RepS K G F r H s a)
structure RelE (env : EnvD) (σ : L2.St) : Prop where
  len : env.length = σ.length
  at_ : ∀ (i : Nat) (d : D), env[i]? = some (some d) → ∃ v, σ[i]? = some (some v) ∧ Rep K G F r H d v
structure Ext (F' : Addr → Prop) (r' : List Addr) (H' : Hp) : Prop where
  fz : ∀ a, F a → F' a ∧ H' a = H a
  pre : r <+: r'
  oth : ∀ a o, H a = some o → a ∉ r → H' a = some o
  fnew : ∀ a, F' a → F a ∨ a ∈ r ∨ H a = none
  rnew : ∀ a, a ∈ r' → a ∈ r ∨ H a = none
end

section
variable {K : PySem.W.Frag} {G : Cls_} {F F1 F2 : Addr → Prop} {r r1 r2 : List Addr} {H H1 H2 : Hp}
theorem Ext.refl : Ext F r H F r H := ⟨fun a h => ⟨h, rfl⟩, List.prefix_refl _, fun _ _ h _ => h, fun _ h => .inl h, fun _ h => .inl h⟩
theorem Ext.none_back (e : Ext F r H F1 r1 H1) {a : Addr} (h : H1 a = none) : a ∈ r ∨ H a = none := by
  by_cases hr : a ∈ r
  · exact .inl hr
  · cases q : H a with
    | none => exact .inr rfl
    | some o => rw [e.oth a o q hr] at h; cases h
theorem Ext.trans (hr1 : ∀ a, a ∈ r1 → H1 a ≠ none) (a : Ext F r H F1 r1 H1) (b : Ext F1 r1 H1 F2 r2 H2) : Ext F r H F2 r2 H2 := by
  have back : ∀ x, H1 x = none → H x = none := fun x hx => by
    rcases a.none_back hx with h | h
    · exact absurd hx (hr1 x (a.pre.subset h))
    · exact h
  refine ⟨fun x hx => ?_, a.pre.trans b.pre, fun x o hx hr => ?_, fun x hx => ?_, fun x hx => ?_⟩
  · obtain ⟨f1, e1⟩ := a.fz x hx
    obtain ⟨f2, e2⟩ := b.fz x f1
    exact ⟨f2, e2.trans e1⟩
  · have h1 := a.oth x o hx hr
    refine b.oth x o h1 fun hr1' => ?_
    rcases a.rnew x hr1' with h | h
    · exact hr h
    · rw [hx] at h; cases h
  · rcases b.fnew x hx with h | h | h
    · exact a.fnew x h
    · rcases a.rnew x h with h | h
      · exact .inr (.inl h)
      · exact .inr (.inr h)
    · exact .inr (.inr (back x h))
  · rcases b.rnew x hx with h | h
    · exact a.rnew x h
    · exact .inr (back x h)
theorem Ext.rd (e : Ext F r H F1 r1 H1) {a : Addr} {u : HO} (f : F a) (h : Rd H a u) : Rd H1 a u := by
  obtain ⟨_, q⟩ := e.fz a f
  rcases h with h | ⟨o, h⟩
  · exact .inl (q.trans h)
  · exact .inr ⟨o, q.trans h⟩
theorem Ext.get (e : Ext F r H F1 r1 H1) {n : Nat} {a : Addr} (h : r[n]? = some a) : r1[n]? = some a := by
  obtain ⟨t, rfl⟩ := e.pre
  rw [List.getElem?_append_left (List.getElem?_eq_some_iff.mp h).1]
  exact h
theorem rd_mn {a : Addr} {u : HO} (q : H1 a = H a) (h : Rd H a u) : Rd H1 a u := by
  rcases h with h | ⟨o, h⟩
  · exact .inl (q.trans h)
  · exact .inr ⟨o, q.trans h⟩
theorem get_pre (e : r <+: r1) {n : Nat} {a : Addr} (h : r[n]? = some a) : r1[n]? = some a := by
  obtain ⟨t, rfl⟩ := e
  rw [List.getElem?_append_left (List.getElem?_eq_some_iff.mp h).1]
  exact h
mutual
theorem Rep.mn (e : ∀ a, F a → F1 a ∧ H1 a = H a) (ep : r <+: r1) : ∀ {d : D} {v : V}, Rep K G F r H d v → Rep K G F1 r1 H1 d v
  | .non, v, h => by simp only [Rep] at h ⊢; exact h
  | .bl b, v, h => by simp only [Rep] at h ⊢; exact h
  | .int i, v, h => by simp only [Rep] at h ⊢; exact h
  | .str x, v, h => by simp only [Rep] at h ⊢; exact h
  | .lst xs, v, h => by
    simp only [Rep] at h ⊢
    obtain ⟨a, vs, ev, f, h, hl⟩ := h
    obtain ⟨f1, q⟩ := e a f
    exact ⟨a, vs, ev, f1, q.trans h, RepL.mn e ep hl⟩
  | .tup xs, v, h => by
    simp only [Rep] at h ⊢
    obtain ⟨a, vs, ev, h, hl⟩ := h
    refine ⟨a, vs, ev, ?_, RepL.mn e ep hl⟩
    rcases h with ⟨f, h⟩ | h
    · exact .inl ⟨(e a f).1, rd_mn (e a f).2 h⟩
    · exact .inr h
  | .ins c xs, v, h => by
    simp only [Rep] at h ⊢
    obtain ⟨a, dx, vs, ev, f, h, hl⟩ := h
    obtain ⟨f1, q⟩ := e a f
    exact ⟨a, dx, vs, ev, f1, q.trans h, RepL.mn e ep hl⟩
  | .hd n, v, h => by
    simp only [Rep] at h ⊢
    obtain ⟨a, h, ev⟩ := h
    exact ⟨a, get_pre ep h, ev⟩
theorem RepL.mn (e : ∀ a, F a → F1 a ∧ H1 a = H a) (ep : r <+: r1) : ∀ {ds : List D} {vs : List V}, RepL K G F r H ds vs → RepL K G F1 r1 H1 ds vs
  | [], vs, h => by simp only [RepL] at h ⊢; exact h
  | x :: xs, vs, h => by
    simp only [RepL] at h ⊢
    obtain ⟨v, ws, ev, h1, h2⟩ := h
    exact ⟨v, ws, ev, Rep.mn e ep h1, RepL.mn e ep h2⟩
end
theorem Rep.mono (e : Ext F r H F1 r1 H1) {d : D} {v : V} (h : Rep K G F r H d v) : Rep K G F1 r1 H1 d v := Rep.mn e.fz e.pre h
theorem RepL.mono (e : Ext F r H F1 r1 H1) {ds : List D} {vs : List V} (h : RepL K G F r H ds vs) : RepL K G F1 r1 H1 ds vs := RepL.mn e.fz e.pre h
theorem RelE.mono (e : Ext F r H F1 r1 H1) {env : EnvD} {σ : L2.St} (h : RelE K G F r H env σ) : RelE K G F1 r1 H1 env σ :=
  ⟨h.len, fun i d q => let ⟨v, h1, h2⟩ := h.at_ i d q; ⟨v, h1, Rep.mono e h2⟩⟩
theorem RelE.set {env : EnvD} {σ : L2.St} (h : RelE K G F r H env σ) {i : Nat} {d : D} {v : V} (hi : i < env.length) (q : Rep K G F r H d v) : RelE K G F r H (env.set i (some d)) (σ.set i (some v)) := by
  refine ⟨by simpa using h.len, fun j x hx => ?_⟩
  by_cases hj : i = j
  · subst hj
    rw [List.getElem?_set_self hi] at hx
    cases hx
    exact ⟨v, by rw [List.getElem?_set_self (by rw [← h.len]; exact hi)], q⟩
  · rw [List.getElem?_set_ne hj] at hx
    obtain ⟨u, h1, h2⟩ := h.at_ j x hx
    exact ⟨u, by rw [List.getElem?_set_ne hj]; exact h1, h2⟩

/-! ### readings by an evaluation -/
/-- what is wanted behind an evaluation's end; E: of an exception (its class, its dict) -/
def PostX (K : PySem.W.Frag) (G : Cls_) (E : XK) (F : Addr → Prop) (r : List Addr) (H : Hp) (c : Nat) (xs : List D) (W : Wd) : Prop :=
  ∀ (F' : Addr → Prop) (r' : List Addr) (H' : Hp) (da : Addr) (vs : List V), Ext F r H F' r' H' → RelW K G F' r' H' W → F' da → H' da = some (.xd ((G.flds c).zip vs)) → RepL K G F' r' H' xs vs → E (.ref (G.clsA c)) (some da) H'
def Post (K : PySem.W.Frag) (G : Cls_) (E : XK) (Q : VK) (F : Addr → Prop) (r : List Addr) (H : Hp) : Res D → Prop
  | .ok d W => ∀ (F' : Addr → Prop) (r' : List Addr) (H' : Hp) (v : V), Ext F r H F' r' H' → RelW K G F' r' H' W → Rep K G F' r' H' d v → Q v H'
  | .exc c xs W => PostX K G E F r H c xs W
  | .no => False
def PostT (K : PySem.W.Frag) (G : Cls_) (E : XK) (Q : Bool → Hp → Prop) (F : Addr → Prop) (r : List Addr) (H : Hp) : Res Bool → Prop
  | .ok b W => ∀ (F' : Addr → Prop) (r' : List Addr) (H' : Hp), Ext F r H F' r' H' → RelW K G F' r' H' W → Q b H'
  | .exc c xs W => PostX K G E F r H c xs W
  | .no => False
def PostA (K : PySem.W.Frag) (G : Cls_) (E : XK) (Q : List V → Hp → Prop) (F : Addr → Prop) (r : List Addr) (H : Hp) : Res (List D) → Prop
  | .ok ds W => ∀ (F' : Addr → Prop) (r' : List Addr) (H' : Hp) (vs : List V), Ext F r H F' r' H' → RelW K G F' r' H' W → RepL K G F' r' H' ds vs → Q vs H'
  | .exc c xs W => PostX K G E F r H c xs W
  | .no => False
abbrev EvF (α : Type) := EnvD → Wd → Res α
def tI (K : PySem.W.Frag) (G : Cls_) (E : XK) (ev : EvF D) : TE := fun σ H Q => ∃ F r env W, RelW K G F r H W ∧ RelE K G F r H env σ ∧ Post K G E Q F r H (ev env W)
def tIT (K : PySem.W.Frag) (G : Cls_) (E : XK) (ev : EvF Bool) : TT := fun σ H Q => ∃ F r env W, RelW K G F r H W ∧ RelE K G F r H env σ ∧ PostT K G E Q F r H (ev env W)
def tIA (K : PySem.W.Frag) (G : Cls_) (E : XK) (ev : EvF (List D)) : TA := fun σ H Q => ∃ F r env W, RelW K G F r H W ∧ RelE K G F r H env σ ∧ PostA K G E Q F r H (ev env W)

/-- a weaker reading -/
theorem PE.imp {X : Cx} {e : Expr} {t t' : TE} (h : PE X e t) (i : ∀ σ H Q, t' σ H Q → t σ H Q) : PE X e t' := ⟨fun pins s σ H Q I q => h.run pins s σ H Q I (i _ _ _ q)⟩
theorem PT.imp {X : Cx} {e : Expr} {t t' : TT} (h : PT X e t) (i : ∀ σ H Q, t' σ H Q → t σ H Q) : PT X e t' := ⟨fun pins s σ H Q I q => h.run pins s σ H Q I (i _ _ _ q)⟩
theorem PA.imp {X : Cx} {es : List Expr} {t t' : TA} (h : PA X es t) (i : ∀ σ H Q, t' σ H Q → t σ H Q) : PA X es t' := ⟨fun pos pins s σ H Q I q => h.run pos pins s σ H Q I (i _ _ _ q)⟩
theorem PostX.back {E : XK} (hr1 : ∀ a, a ∈ r1 → H1 a ≠ none) (e : Ext F r H F1 r1 H1) {c : Nat} {xs : List D} {W : Wd} (h : PostX K G E F r H c xs W) : PostX K G E F1 r1 H1 c xs W :=
  fun F' r' H' da vs e' rw_ f q rl => h F' r' H' da vs (e.trans hr1 e') rw_ f q rl

/-- the wishes behind an evaluation, of one kind -/
structure IsP (K : PySem.W.Frag) (G : Cls_) (E : XK) {α : Type} (P : (Addr → Prop) → List Addr → Hp → Res α → Prop) : Prop where
  no : ∀ F r H, ¬ P F r H .no
  exc : ∀ F r H c xs W, P F r H (.exc c xs W) → PostX K G E F r H c xs W
  xce : ∀ F r H c xs W, PostX K G E F r H c xs W → P F r H (.exc c xs W)
  back : ∀ F r H F1 r1 H1 x, (∀ a, a ∈ r1 → H1 a ≠ none) → Ext F r H F1 r1 H1 → P F r H x → P F1 r1 H1 x
theorem isP {E : XK} {Q : VK} : IsP K G E (Post K G E Q) where
  no := fun _ _ _ h => h
  exc := fun _ _ _ _ _ _ h => h
  xce := fun _ _ _ _ _ _ h => h
  back := fun F r H F1 r1 H1 x hr e h => by
    cases x with
    | no => exact h
    | exc c xs W => exact PostX.back hr e h
    | ok d W => exact fun F' r' H' v e' w q => h F' r' H' v (e.trans hr e') w q
theorem isPT {E : XK} {Q : Bool → Hp → Prop} : IsP K G E (PostT K G E Q) where
  no := fun _ _ _ h => h
  exc := fun _ _ _ _ _ _ h => h
  xce := fun _ _ _ _ _ _ h => h
  back := fun F r H F1 r1 H1 x hr e h => by
    cases x with
    | no => exact h
    | exc c xs W => exact PostX.back hr e h
    | ok d W => exact fun F' r' H' e' w => h F' r' H' (e.trans hr e') w
theorem isPA {E : XK} {Q : List V → Hp → Prop} : IsP K G E (PostA K G E Q) where
  no := fun _ _ _ h => h
  exc := fun _ _ _ _ _ _ h => h
  xce := fun _ _ _ _ _ _ h => h
  back := fun F r H F1 r1 H1 x hr e h => by
    cases x with
    | no => exact h
    | exc c xs W => exact PostX.back hr e h
    | ok d W => exact fun F' r' H' v e' w q => h F' r' H' v (e.trans hr e') w q
section
variable {E : XK} {σ : L2.St} {env : EnvD} {W : Wd} {α : Type} {P : (Addr → Prop) → List Addr → Hp → Res α → Prop}
theorem tI.use {ea : EvF D} {k : D → Wd → Res α} {R : V → Hp → Prop} (p : IsP K G E P) (w : RelW K G F r H W) (l : RelE K G F r H env σ) (h : P F r H ((ea env W).bind k))
    (hk : ∀ d W1 F1 r1 H1 v, Ext F r H F1 r1 H1 → RelW K G F1 r1 H1 W1 → RelE K G F1 r1 H1 env σ → Rep K G F1 r1 H1 d v → P F1 r1 H1 (k d W1) → R v H1) : tI K G E ea σ H R := by
  refine ⟨F, r, env, W, w, l, ?_⟩
  cases q : ea env W with
  | no => rw [q] at h; exact (p.no _ _ _ h).elim
  | exc c xs W1 => rw [q] at h; exact p.exc _ _ _ _ _ _ h
  | ok d W1 =>
    rw [q] at h
    exact fun F1 r1 H1 v e1 w1 d1 => hk d W1 F1 r1 H1 v e1 w1 (l.mono e1) d1 (p.back _ _ _ _ _ _ _ w1.rh e1 h)
theorem tIT.use {ea : EvF Bool} {k : Bool → Wd → Res α} {R : Bool → Hp → Prop} (p : IsP K G E P) (w : RelW K G F r H W) (l : RelE K G F r H env σ) (h : P F r H ((ea env W).bind k))
    (hk : ∀ b W1 F1 r1 H1, Ext F r H F1 r1 H1 → RelW K G F1 r1 H1 W1 → RelE K G F1 r1 H1 env σ → P F1 r1 H1 (k b W1) → R b H1) : tIT K G E ea σ H R := by
  refine ⟨F, r, env, W, w, l, ?_⟩
  cases q : ea env W with
  | no => rw [q] at h; exact (p.no _ _ _ h).elim
  | exc c xs W1 => rw [q] at h; exact p.exc _ _ _ _ _ _ h
  | ok d W1 =>
    rw [q] at h
    exact fun F1 r1 H1 e1 w1 => hk d W1 F1 r1 H1 e1 w1 (l.mono e1) (p.back _ _ _ _ _ _ _ w1.rh e1 h)
theorem tIA.use {ea : EvF (List D)} {k : List D → Wd → Res α} {R : List V → Hp → Prop} (p : IsP K G E P) (w : RelW K G F r H W) (l : RelE K G F r H env σ) (h : P F r H ((ea env W).bind k))
    (hk : ∀ ds W1 F1 r1 H1 vs, Ext F r H F1 r1 H1 → RelW K G F1 r1 H1 W1 → RelE K G F1 r1 H1 env σ → RepL K G F1 r1 H1 ds vs → P F1 r1 H1 (k ds W1) → R vs H1) : tIA K G E ea σ H R := by
  refine ⟨F, r, env, W, w, l, ?_⟩
  cases q : ea env W with
  | no => rw [q] at h; exact (p.no _ _ _ h).elim
  | exc c xs W1 => rw [q] at h; exact p.exc _ _ _ _ _ _ h
  | ok d W1 =>
    rw [q] at h
    exact fun F1 r1 H1 v e1 w1 d1 => hk d W1 F1 r1 H1 v e1 w1 (l.mono e1) d1 (p.back _ _ _ _ _ _ _ w1.rh e1 h)
end
end
end VI
-- VB
set_option Elab.async false
set_option linter.all false
set_option maxRecDepth 100000
set_option maxHeartbeats 2000000
namespace VI
open PySem PySem.Spec PyProof.Rows L2
section
variable {K : PySem.W.Frag} {G : Cls_} {F F1 F2 : Addr → Prop} {r r1 r2 : List Addr} {H H1 H2 : Hp} {W : Wd} {env : EnvD} {σ : L2.St}

/-! ### lists of data -/
theorem RepL.cons' {x : D} {xs : List D} {v : V} {vs : List V} (a : Rep K G F r H x v) (b : RepL K G F r H xs vs) : RepL K G F r H (x :: xs) (v :: vs) := by
  simp only [RepL]; exact ⟨v, vs, rfl, a, b⟩
theorem RepL.nil' : RepL K G F r H [] [] := by simp only [RepL]
theorem RepL.inv {x : D} {xs : List D} {vs : List V} (h : RepL K G F r H (x :: xs) vs) : ∃ v ws, vs = v :: ws ∧ Rep K G F r H x v ∧ RepL K G F r H xs ws := by
  simp only [RepL] at h; exact h
theorem RepL.inv0 {vs : List V} (h : RepL K G F r H [] vs) : vs = [] := by simp only [RepL] at h; exact h
theorem RepL.length : ∀ {xs : List D} {vs : List V}, RepL K G F r H xs vs → xs.length = vs.length
  | [], _, h => by rw [h.inv0] <;> rfl
  | x :: xs, _, h => by
    obtain ⟨v, ws, rfl, _, t⟩ := h.inv
    rw [List.length_cons, List.length_cons, t.length]
theorem RepL.get : ∀ {xs : List D} {vs : List V} {i : Nat} {x : D}, RepL K G F r H xs vs → xs[i]? = some x → ∃ v, vs[i]? = some v ∧ Rep K G F r H x v
  | [], _, _, _, _, e => by simp at e
  | y :: ys, _, 0, x, h, e => by
    obtain ⟨v, ws, rfl, a, _⟩ := h.inv
    simp at e; subst e; exact ⟨v, rfl, a⟩
  | y :: ys, _, i + 1, x, h, e => by
    obtain ⟨v, ws, rfl, _, t⟩ := h.inv
    obtain ⟨u, h1, h2⟩ := t.get (i := i) (x := x) (by simpa using e)
    exact ⟨u, by simpa using h1, h2⟩
theorem RepL.append : ∀ {xs ys : List D} {vs ws : List V}, RepL K G F r H xs vs → RepL K G F r H ys ws → RepL K G F r H (xs ++ ys) (vs ++ ws)
  | [], _, _, _, h, q => by rw [h.inv0]; exact q
  | x :: xs, _, _, _, h, q => by
    obtain ⟨v, ws, rfl, a, t⟩ := h.inv
    exact RepL.cons' a (t.append q)
theorem RepL.take : ∀ {xs : List D} {vs : List V} (n : Nat), RepL K G F r H xs vs → RepL K G F r H (xs.take n) (vs.take n)
  | _, _, 0, _ => by simp only [List.take_zero]; exact RepL.nil'
  | [], _, n + 1, h => by rw [h.inv0]; simp only [List.take_nil]; exact RepL.nil'
  | x :: xs, _, n + 1, h => by
    obtain ⟨v, ws, rfl, a, t⟩ := h.inv
    exact RepL.cons' a (t.take n)
theorem RepL.drop : ∀ {xs : List D} {vs : List V} (n : Nat), RepL K G F r H xs vs → RepL K G F r H (xs.drop n) (vs.drop n)
  | _, _, 0, h => h
  | [], _, n + 1, h => by rw [h.inv0]; simp only [List.drop_nil]; exact RepL.nil'
  | x :: xs, _, n + 1, h => by
    obtain ⟨v, ws, rfl, _, t⟩ := h.inv
    exact t.drop n
theorem RepL.reverse {xs : List D} {vs : List V} (h : RepL K G F r H xs vs) : RepL K G F r H xs.reverse vs.reverse := by
  induction xs generalizing vs with
  | nil => rw [h.inv0]; exact RepL.nil'
  | cons x xs ih =>
    obtain ⟨v, ws, rfl, a, t⟩ := h.inv
    rw [List.reverse_cons, List.reverse_cons]
    exact (ih t).append (RepL.cons' a RepL.nil')
theorem RepL.set {x : D} {v : V} (a : Rep K G F r H x v) : ∀ {xs : List D} {vs : List V} (i : Nat), RepL K G F r H xs vs → RepL K G F r H (xs.set i x) (vs.set i v)
  | [], _, _, h => by rw [h.inv0]; exact RepL.nil'
  | y :: ys, _, 0, h => by
    obtain ⟨u, ws, rfl, _, t⟩ := h.inv
    exact RepL.cons' a t
  | y :: ys, _, i + 1, h => by
    obtain ⟨u, ws, rfl, b, t⟩ := h.inv
    exact RepL.cons' b (t.set a i)
theorem RepL.nil_iff {xs : List D} {vs : List V} (h : RepL K G F r H xs vs) : xs = [] ↔ vs = [] := by
  have e := h.length
  constructor
  · intro z; subst z; exact h.inv0
  · intro z; subst z; exact List.length_eq_zero_iff.mp (by simpa using e)

/-! ### scalars -/
theorem Rep.int {i : Int} {v : V} (h : Rep K G F r H (.int i) v) : v = .int i := by simp only [Rep] at h; exact h
theorem Rep.bl {b : Bool} {v : V} (h : Rep K G F r H (.bl b) v) : v = .bl b := by simp only [Rep] at h; exact h
theorem Rep.non {v : V} (h : Rep K G F r H .non v) : v = .non := by simp only [Rep] at h; exact h
theorem Rep.str {x : List Nat} {v : V} (h : Rep K G F r H (.str x) v) : v = .str ⟨x.toArray⟩ := by simp only [Rep] at h; exact h
theorem rep_int {i : Int} : Rep K G F r H (.int i) (.int i) := by simp only [Rep]
theorem rep_bl {b : Bool} : Rep K G F r H (.bl b) (.bl b) := by simp only [Rep]
theorem rep_non : Rep K G F r H .non .non := by simp only [Rep]
theorem rep_str {x : List Nat} : Rep K G F r H (.str x) (.str ⟨x.toArray⟩) := by simp only [Rep]
theorem Rep.lst {xs : List D} {v : V} (h : Rep K G F r H (.lst xs) v) : ∃ a vs, v = .ref a ∧ H a = some (.lst vs) ∧ RepL K G F r H xs vs := by
  simp only [Rep] at h
  obtain ⟨a, vs, e, _, q, t⟩ := h
  exact ⟨a, vs, e, q, t⟩
theorem Rep.tup {xs : List D} {v : V} (h : Rep K G F r H (.tup xs) v) : ∃ a vs, v = .ref a ∧ SqT K H a vs ∧ RepL K G F r H xs vs := by
  simp only [Rep] at h
  obtain ⟨a, vs, e, q, t⟩ := h
  rcases q with ⟨_, q⟩ | q
  · exact ⟨a, vs, e, .inl q, t⟩
  · exact ⟨a, vs, e, .inr q, t⟩
theorem Rep.ins {c : Nat} {xs : List D} {v : V} (h : Rep K G F r H (.ins c xs) v) : ∃ a dx vs, v = .ref a ∧ H a = some (.ins (G.clsA c) dx ((G.flds c).zip vs)) ∧ RepL K G F r H xs vs := by
  simp only [Rep] at h
  obtain ⟨a, dx, vs, e, _, q, t⟩ := h
  exact ⟨a, dx, vs, e, q, t⟩
theorem Rep.hd {n : Nat} {v : V} (h : Rep K G F r H (.hd n) v) : ∃ a, r[n]? = some a ∧ v = .ref a := by simp only [Rep] at h; exact h

/-! ### a value as it is to be read now -/
def look (W : Wd) : D → D
  | .hd n => match W[n]? with
    | some (.lst xs) => .lst xs
    | some (.ins c xs) => .ins c xs
    | _ => .hd n
  | d => d
/-- .. a list that is only read too -/
def lookR (W : Wd) : D → D
  | .hd n => match W[n]? with
    | some (.ro xs) => .lst xs
    | _ => look W (.hd n)
  | d => d
theorem look_cases (W : Wd) (d : D) : look W d = d ∨ ∃ n, d = .hd n ∧ ((∃ xs, W[n]? = some (.lst xs) ∧ look W d = .lst xs) ∨ ∃ c xs, W[n]? = some (.ins c xs) ∧ look W d = .ins c xs) := by
  cases d with
  | hd n =>
    cases h : W[n]? with
    | none => left; simp [look, h]
    | some s =>
      cases s with
      | dead => left; simp [look, h]
      | lst xs => right; exact ⟨n, rfl, .inl ⟨xs, h, by simp [look, h]⟩⟩
      | ins c xs => right; exact ⟨n, rfl, .inr ⟨c, xs, h, by simp [look, h]⟩⟩
      | ro xs => left; simp [look, h]
  | _ => left; rfl
theorem look_lst {d : D} {v : V} {xs : List D} (w : RelW K G F r H W) (h : Rep K G F r H d v) (e : look W d = .lst xs) : ∃ a vs, v = .ref a ∧ H a = some (.lst vs) ∧ RepL K G F r H xs vs := by
  rcases look_cases W d with q | ⟨n, rfl, ⟨ys, hw, q⟩ | ⟨c, ys, hw, q⟩⟩
  · rw [q] at e; subst e; exact h.lst
  · rw [q] at e; cases e
    obtain ⟨a, ha, rfl⟩ := h.hd
    rcases w.ok n _ a hw ha with z | ⟨_, z⟩
    · cases z
    · obtain ⟨vs, hs, t⟩ := z
      exact ⟨a, vs, rfl, hs, t⟩
  · rw [q] at e; cases e
theorem lookR_lst {d : D} {v : V} {xs : List D} (w : RelW K G F r H W) (h : Rep K G F r H d v) (e : lookR W d = .lst xs) : ∃ a vs, v = .ref a ∧ SqL K H a vs ∧ RepL K G F r H xs vs := by
  have go : look W d = .lst xs → ∃ a vs, v = .ref a ∧ SqL K H a vs ∧ RepL K G F r H xs vs := fun q => by
    obtain ⟨a, vs, e1, e2, e3⟩ := look_lst w h q
    exact ⟨a, vs, e1, .of e2, e3⟩
  cases d with
  | hd n =>
    cases hw : W[n]? with
    | none => simp only [lookR, hw] at e; exact go e
    | some s =>
      cases s with
      | ro ys =>
        simp only [lookR, hw] at e
        cases e
        obtain ⟨a, ha, rfl⟩ := h.hd
        rcases w.ok n _ a hw ha with z | ⟨_, z⟩
        · cases z
        · obtain ⟨o, vs, hs, t⟩ := z
          exact ⟨a, vs, rfl, .inl (.inr ⟨o, hs⟩), t⟩
      | dead => simp only [lookR, hw] at e; exact go e
      | lst ys => simp only [lookR, hw] at e; exact go e
      | ins c ys => simp only [lookR, hw] at e; exact go e
  | _ => exact go e
theorem lookR_tup {d : D} {xs : List D} (e : lookR W d = .tup xs) : look W d = .tup xs := by
  cases d with
  | hd n =>
    cases hw : W[n]? with
    | none => simp only [lookR, hw] at e; exact e
    | some s => cases s <;> simp only [lookR, hw] at e <;> first | exact e | cases e
  | _ => exact e
theorem look_tup {d : D} {v : V} {xs : List D} (h : Rep K G F r H d v) (e : look W d = .tup xs) : ∃ a vs, v = .ref a ∧ SqT K H a vs ∧ RepL K G F r H xs vs := by
  rcases look_cases W d with q | ⟨n, rfl, ⟨ys, hw, q⟩ | ⟨c, ys, hw, q⟩⟩
  · rw [q] at e; subst e; exact h.tup
  · rw [q] at e; cases e
  · rw [q] at e; cases e
theorem look_ins {d : D} {v : V} {c : Nat} {xs : List D} (w : RelW K G F r H W) (h : Rep K G F r H d v) (e : look W d = .ins c xs) : ∃ a dx vs, v = .ref a ∧ H a = some (.ins (G.clsA c) dx ((G.flds c).zip vs)) ∧ RepL K G F r H xs vs := by
  rcases look_cases W d with q | ⟨n, rfl, ⟨ys, hw, q⟩ | ⟨c', ys, hw, q⟩⟩
  · rw [q] at e; subst e; exact h.ins
  · rw [q] at e; cases e
  · rw [q] at e; cases e
    obtain ⟨a, ha, rfl⟩ := h.hd
    rcases w.ok n _ a hw ha with z | ⟨_, z⟩
    · cases z
    · obtain ⟨dx, vs, hs, t⟩ := z
      exact ⟨a, dx, vs, rfl, hs, t⟩
theorem look_int {d : D} {v : V} {i : Int} (h : Rep K G F r H d v) (e : look W d = .int i) : v = .int i := by
  rcases look_cases W d with q | ⟨n, rfl, ⟨ys, hw, q⟩ | ⟨c', ys, hw, q⟩⟩ <;> rw [q] at e
  · subst e; exact h.int
  · cases e
  · cases e
theorem look_bl {d : D} {v : V} {i : Bool} (h : Rep K G F r H d v) (e : look W d = .bl i) : v = .bl i := by
  rcases look_cases W d with q | ⟨n, rfl, ⟨ys, hw, q⟩ | ⟨c', ys, hw, q⟩⟩ <;> rw [q] at e
  · subst e; exact h.bl
  · cases e
  · cases e
theorem look_non {d : D} {v : V} (h : Rep K G F r H d v) (e : look W d = .non) : v = .non := by
  rcases look_cases W d with q | ⟨n, rfl, ⟨ys, hw, q⟩ | ⟨c', ys, hw, q⟩⟩ <;> rw [q] at e
  · subst e; exact h.non
  · cases e
  · cases e
theorem look_str {d : D} {v : V} {x : List Nat} (h : Rep K G F r H d v) (e : look W d = .str x) : v = .str ⟨x.toArray⟩ := by
  rcases look_cases W d with q | ⟨n, rfl, ⟨ys, hw, q⟩ | ⟨c', ys, hw, q⟩⟩ <;> rw [q] at e
  · subst e; exact h.str
  · cases e
  · cases e

/-! ### new objects, changes, freezing -/
def F' (F : Addr → Prop) (p : Addr) : Addr → Prop := fun a => F a ∨ a = p
theorem notF (w : RelW K G F r H W) {p : Addr} (hp : H p = none) : ¬ F p := fun z => w.fr p z hp
theorem notR (w : RelW K G F r H W) {p : Addr} (hp : H p = none) : p ∉ r := fun z => w.rh p z hp
theorem ext_new (w : RelW K G F r H W) {p : Addr} {o : HO} (hp : H p = none) : Ext F r H (F' F p) r (upd H p o) :=
  ⟨fun a h => ⟨.inl h, upd_ne (fun e => by subst e; exact notF w hp h)⟩, List.prefix_refl _, fun a u h _ => by rw [upd_ne (ne_of_none h hp)]; exact h,
    fun a h => h.elim .inl fun e => .inr (.inr (by rw [e]; exact hp)), fun a h => .inl h⟩
/-- the same without marking it -/
theorem ext_upd (w : RelW K G F r H W) {p : Addr} {o : HO} (hp : H p = none) : Ext F r H F r (upd H p o) :=
  ⟨fun a h => ⟨h, upd_ne (fun e => by subst e; exact notF w hp h)⟩, List.prefix_refl _, fun a u h _ => by rw [upd_ne (ne_of_none h hp)]; exact h, fun a h => .inl h, fun a h => .inl h⟩
theorem RepS.mono (e : Ext F r H F1 r1 H1) {s : Slot} {a : Addr} (q : H1 a = H a) (h : RepS K G F r H s a) : RepS K G F1 r1 H1 s a := by
  cases s with
  | dead => trivial
  | lst xs => obtain ⟨vs, h1, h2⟩ := h; exact ⟨vs, q.trans h1, RepL.mono e h2⟩
  | ins c xs => obtain ⟨dx, vs, h1, h2⟩ := h; exact ⟨dx, vs, q.trans h1, RepL.mono e h2⟩
  | ro xs => obtain ⟨o, vs, h1, h2⟩ := h; exact ⟨o, vs, q.trans h1, RepL.mono e h2⟩
theorem upd_some {H : Hp} {p a : Addr} {o : HO} (h : H a ≠ none) : upd H p o a ≠ none := by
  by_cases e : a = p
  · rw [e, upd_same]; exact Option.some_ne_none _
  · rw [upd_ne e]; exact h
theorem relW_new (w : RelW K G F r H W) {p : Addr} {o : HO} (hp : H p = none) : RelW K G (F' F p) r (upd H p o) W := by
  refine ⟨w.len, w.nd, fun a h => ?_, fun a h => upd_some (w.rh a h), fun n s a h1 h2 => ?_⟩
  · rcases h with h | h
    · exact upd_some (w.fr a h)
    · rw [h, upd_same]; exact Option.some_ne_none _
  · have hr : a ∈ r := List.mem_of_getElem? h2
    have ne : a ≠ p := fun e => by subst e; exact w.rh _ hr hp
    rcases w.ok n s a h1 h2 with h | ⟨nf, h⟩
    · exact .inl h
    · exact .inr ⟨fun z => z.elim nf ne, RepS.mono (ext_new w hp) (upd_ne ne) h⟩
theorem relW_upd (w : RelW K G F r H W) {p : Addr} {o : HO} (hp : H p = none) : RelW K G F r (upd H p o) W := by
  refine ⟨w.len, w.nd, fun a h => upd_some (w.fr a h), fun a h => upd_some (w.rh a h), fun n s a h1 h2 => ?_⟩
  have hr : a ∈ r := List.mem_of_getElem? h2
  have ne : a ≠ p := fun e => by subst e; exact w.rh _ hr hp
  rcases w.ok n s a h1 h2 with h | ⟨nf, h⟩
  · exact .inl h
  · exact .inr ⟨nf, RepS.mono (ext_upd w hp) (upd_ne ne) h⟩
/-- a new frozen list, a new frozen tuple -/
theorem new_lst (w : RelW K G F r H W) {p : Addr} {xs : List D} {vs : List V} (hp : H p = none) (t : RepL K G F r H xs vs) :
    Ext F r H (F' F p) r (upd H p (.lst vs)) ∧ RelW K G (F' F p) r (upd H p (.lst vs)) W ∧ Rep K G (F' F p) r (upd H p (.lst vs)) (.lst xs) (.ref p) := by
  have e := ext_new (o := .lst vs) w hp
  refine ⟨e, relW_new w hp, ?_⟩
  simp only [Rep]
  exact ⟨p, vs, rfl, .inr rfl, upd_same, RepL.mono e t⟩
theorem new_tup (w : RelW K G F r H W) {p : Addr} {xs : List D} {vs : List V} (hp : H p = none) (t : RepL K G F r H xs vs) :
    Ext F r H (F' F p) r (upd H p (.tup vs)) ∧ RelW K G (F' F p) r (upd H p (.tup vs)) W ∧ Rep K G (F' F p) r (upd H p (.tup vs)) (.tup xs) (.ref p) := by
  have e := ext_new (o := .tup vs) w hp
  refine ⟨e, relW_new w hp, ?_⟩
  simp only [Rep]
  exact ⟨p, vs, rfl, .inl ⟨.inr rfl, .inl upd_same⟩, RepL.mono e t⟩
/-- a new object under a handle -/
theorem ext_hd (w : RelW K G F r H W) {p : Addr} {o : HO} (hp : H p = none) : Ext F r H F (r ++ [p]) (upd H p o) :=
  ⟨fun a h => ⟨h, upd_ne (fun e => by subst e; exact notF w hp h)⟩, ⟨[p], rfl⟩, fun a u h _ => by rw [upd_ne (ne_of_none h hp)]; exact h, fun a h => .inl h,
    fun a h => (List.mem_append.mp h).elim .inl fun z => .inr (by rw [List.mem_singleton.mp z]; exact hp)⟩
theorem relW_hd (w : RelW K G F r H W) {p : Addr} {o : HO} {s : Slot} (hp : H p = none) (hs : RepS K G F (r ++ [p]) (upd H p o) s p) : RelW K G F (r ++ [p]) (upd H p o) (W ++ [s]) := by
  refine ⟨by rw [List.length_append, List.length_append, w.len]; rfl, ?_, fun a h => upd_some (w.fr a h), fun a h => ?_, fun n u a h1 h2 => ?_⟩
  · refine List.nodup_append.mpr ⟨w.nd, (by simp), fun a ha b hb => ?_⟩
    rw [List.mem_singleton.mp hb]
    exact fun e => by subst e; exact notR w hp ha
  · rcases List.mem_append.mp h with h | h
    · exact upd_some (w.rh a h)
    · rw [List.mem_singleton.mp h, upd_same]; exact Option.some_ne_none _
  · by_cases hn : n < W.length
    · rw [List.getElem?_append_left hn] at h1
      rw [List.getElem?_append_left (by rw [w.len]; exact hn)] at h2
      have ne : a ≠ p := fun e => by subst e; exact w.rh _ (List.mem_of_getElem? h2) hp
      rcases w.ok n u a h1 h2 with h | ⟨nf, h⟩
      · exact .inl h
      · exact .inr ⟨nf, RepS.mono (ext_hd w hp) (upd_ne ne) h⟩
    · have hn' : n = W.length := by
        have := (List.getElem?_eq_some_iff.mp h1).1
        rw [List.length_append] at this
        simp at this
        omega
      subst hn'
      rw [List.getElem?_append_right (Nat.le_refl _), Nat.sub_self] at h1
      rw [← w.len, List.getElem?_append_right (Nat.le_refl _), Nat.sub_self] at h2
      cases h1
      cases h2
      exact .inr ⟨notF w hp, hs⟩
theorem new_hdl (w : RelW K G F r H W) {p : Addr} {xs : List D} {vs : List V} (hp : H p = none) (t : RepL K G F r H xs vs) :
    Ext F r H F (r ++ [p]) (upd H p (.lst vs)) ∧ RelW K G F (r ++ [p]) (upd H p (.lst vs)) (W ++ [.lst xs]) ∧ Rep K G F (r ++ [p]) (upd H p (.lst vs)) (.hd W.length) (.ref p) := by
  have e := ext_hd (o := .lst vs) w hp
  refine ⟨e, relW_hd w hp ⟨vs, upd_same, RepL.mono e t⟩, ?_⟩
  simp only [Rep]
  exact ⟨p, by rw [← w.len, List.getElem?_append_right (Nat.le_refl _), Nat.sub_self] <;> rfl, rfl⟩
theorem new_hdi (w : RelW K G F r H W) {p dx : Addr} {c : Nat} (hp : H p = none) :
    Ext F r H F (r ++ [p]) (upd H p (.ins (G.clsA c) dx [])) ∧ RelW K G F (r ++ [p]) (upd H p (.ins (G.clsA c) dx [])) (W ++ [.ins c []]) ∧ Rep K G F (r ++ [p]) (upd H p (.ins (G.clsA c) dx [])) (.hd W.length) (.ref p) := by
  have e := ext_hd (o := .ins (G.clsA c) dx []) w hp
  refine ⟨e, relW_hd w hp ⟨dx, [], by rw [upd_same, List.zip_nil_right], RepL.nil'⟩, ?_⟩
  simp only [Rep]
  exact ⟨p, by rw [← w.len, List.getElem?_append_right (Nat.le_refl _), Nat.sub_self] <;> rfl, rfl⟩
/-- what stands under a handle is changed -/
theorem ext_set (w : RelW K G F r H W) {n : Nat} {a : Addr} {s : Slot} {o : HO} (hw : W[n]? = some s) (hs : s ≠ .dead) (ha : r[n]? = some a) : Ext F r H F r (upd H a o) := by
  have nf : ¬ F a := by
    rcases w.ok n s a hw ha with z | ⟨z, _⟩
    · exact absurd z hs
    · exact z
  exact ⟨fun b h => ⟨h, upd_ne (fun e => by subst e; exact nf h)⟩, List.prefix_refl _, fun b u h hb => by rw [upd_ne (fun e => by subst e; exact hb (List.mem_of_getElem? ha))]; exact h, fun b h => .inl h, fun b h => .inl h⟩
theorem nodup_get {r : List Addr} (nd : r.Nodup) {i j : Nat} {a : Addr} (h1 : r[i]? = some a) (h2 : r[j]? = some a) : i = j := by
  obtain ⟨l1, e1⟩ := List.getElem?_eq_some_iff.mp h1
  obtain ⟨l2, e2⟩ := List.getElem?_eq_some_iff.mp h2
  exact (List.getElem_inj nd).mp (e1.trans e2.symm)
theorem relW_set (w : RelW K G F r H W) {n : Nat} {a : Addr} {s s' : Slot} {o : HO} (hw : W[n]? = some s) (hs : s ≠ .dead) (ha : r[n]? = some a) (hs' : RepS K G F r (upd H a o) s' a) : RelW K G F r (upd H a o) (W.set n s') := by
  have e := ext_set (o := o) w hw hs ha
  have nf : ¬ F a := by
    rcases w.ok n s a hw ha with z | ⟨z, _⟩
    · exact absurd z hs
    · exact z
  have hn : n < W.length := (List.getElem?_eq_some_iff.mp hw).1
  refine ⟨by rw [List.length_set]; exact w.len, w.nd, fun b h => upd_some (w.fr b h), fun b h => upd_some (w.rh b h), fun m u b h1 h2 => ?_⟩
  by_cases hm : n = m
  · subst hm
    rw [List.getElem?_set_self hn] at h1
    cases h1
    rw [ha] at h2; cases h2
    exact .inr ⟨nf, hs'⟩
  · rw [List.getElem?_set_ne hm] at h1
    have ne : b ≠ a := fun z => by subst z; exact hm (nodup_get w.nd ha h2)
    rcases w.ok m u b h1 h2 with h | ⟨nf', h⟩
    · exact .inl h
    · exact .inr ⟨nf', RepS.mono e (upd_ne ne) h⟩
theorem RepS.mn (e : ∀ a, F a → F1 a ∧ H1 a = H a) (ep : r <+: r1) {s : Slot} {a : Addr} (q : H1 a = H a) (h : RepS K G F r H s a) : RepS K G F1 r1 H1 s a := by
  cases s with
  | dead => trivial
  | lst xs => obtain ⟨vs, h1, h2⟩ := h; exact ⟨vs, q.trans h1, RepL.mn e ep h2⟩
  | ins c xs => obtain ⟨dx, vs, h1, h2⟩ := h; exact ⟨dx, vs, q.trans h1, RepL.mn e ep h2⟩
  | ro xs => obtain ⟨o, vs, h1, h2⟩ := h; exact ⟨o, vs, q.trans h1, RepL.mn e ep h2⟩
/-- a place apart: not frozen, under no handle, new since the start -/
theorem ext_apart (e : Ext F r H F1 r1 H1) {p : Addr} {o : HO} (h0 : H p = none) (nf : ¬ F1 p) : Ext F r H F1 r1 (upd H1 p o) :=
  ⟨fun a f => ⟨(e.fz a f).1, by rw [upd_ne (fun z : a = p => by subst z; exact nf (e.fz a f).1)]; exact (e.fz a f).2⟩, e.pre, fun a u h hr => by
    rw [upd_ne (ne_of_none h h0)]; exact e.oth a u h hr, e.fnew, e.rnew⟩
theorem relW_apart (w : RelW K G F r H W) {p : Addr} {o : HO} (nf : ¬ F p) (nr : p ∉ r) : RelW K G F r (upd H p o) W := by
  refine ⟨w.len, w.nd, fun a h => upd_some (w.fr a h), fun a h => upd_some (w.rh a h), fun n s a h1 h2 => ?_⟩
  have ne : a ≠ p := fun e => by subst e; exact nr (List.mem_of_getElem? h2)
  rcases w.ok n s a h1 h2 with h | ⟨nf', h⟩
  · exact .inl h
  · exact .inr ⟨nf', RepS.mn (fun b f => ⟨f, upd_ne fun z : b = p => by subst z; exact nf f⟩) (List.prefix_refl _) (upd_ne ne) h⟩
theorem repL_apart {p : Addr} {o : HO} (nf : ¬ F p) {xs : List D} {vs : List V} (h : RepL K G F r H xs vs) : RepL K G F r (upd H p o) xs vs := RepL.mn (fun b f => ⟨f, upd_ne fun z : b = p => by subst z; exact nf f⟩) (List.prefix_refl _) h
theorem ext_apart_frz (e : Ext F r H F1 r1 H1) {p : Addr} (h0 : H p = none) : Ext F r H (F' F1 p) r1 H1 :=
  ⟨fun a f => ⟨.inl (e.fz a f).1, (e.fz a f).2⟩, e.pre, e.oth, fun a h => h.elim (e.fnew a) fun z => .inr (.inr (by rw [z]; exact h0)), e.rnew⟩
theorem relW_apart_frz (w : RelW K G F r H W) {p : Addr} (hp : H p ≠ none) (nr : p ∉ r) : RelW K G (F' F p) r H W := by
  refine ⟨w.len, w.nd, fun a h => h.elim (w.fr a) fun z => by rw [z]; exact hp, w.rh, fun n s a h1 h2 => ?_⟩
  have ne : a ≠ p := fun e => by subst e; exact nr (List.mem_of_getElem? h2)
  rcases w.ok n s a h1 h2 with h | ⟨nf', h⟩
  · exact .inl h
  · exact .inr ⟨fun z => z.elim nf' ne, RepS.mn (fun b f => ⟨.inl f, rfl⟩) (List.prefix_refl _) rfl h⟩
theorem ext_apart_hd (e : Ext F r H F1 r1 H1) {p : Addr} (h0 : H p = none) : Ext F r H F1 (r1 ++ [p]) H1 :=
  ⟨e.fz, e.pre.trans ⟨[p], rfl⟩, e.oth, e.fnew, fun a h => (List.mem_append.mp h).elim (e.rnew a) fun z => .inr (by rw [List.mem_singleton.mp z]; exact h0)⟩
theorem relW_apart_hd (w : RelW K G F r H W) {p : Addr} {xs : List D} {vs : List V} (hp : H p = some (.lst vs)) (nf : ¬ F p) (nr : p ∉ r) (t : RepL K G F r H xs vs) : RelW K G F (r ++ [p]) H (W ++ [.lst xs]) := by
  have pre : r <+: r ++ [p] := ⟨[p], rfl⟩
  refine ⟨by rw [List.length_append, List.length_append, w.len]; rfl, ?_, w.fr, fun a h => ?_, fun n u a h1 h2 => ?_⟩
  · rw [List.nodup_append]
    exact ⟨w.nd, (by simp), fun a h b hb e => by rw [List.mem_singleton.mp hb] at e; exact nr (e ▸ h)⟩
  · rcases List.mem_append.mp h with h | h
    · exact w.rh a h
    · rw [List.mem_singleton.mp h, hp]; exact Option.some_ne_none _
  · by_cases hn : n < W.length
    · rw [List.getElem?_append_left hn] at h1
      rw [List.getElem?_append_left (by rw [w.len]; exact hn)] at h2
      rcases w.ok n u a h1 h2 with h | ⟨nf', h⟩
      · exact .inl h
      · exact .inr ⟨nf', RepS.mn (fun b f => ⟨f, rfl⟩) pre rfl h⟩
    · have hl : n < (W ++ [Slot.lst xs]).length := (List.getElem?_eq_some_iff.mp h1).1
      rw [List.length_append, List.length_singleton] at hl
      have hn2 : n = W.length := by omega
      subst hn2
      rw [List.getElem?_append_right (Nat.le_refl _), Nat.sub_self] at h1
      rw [← w.len, List.getElem?_append_right (Nat.le_refl _), Nat.sub_self] at h2
      cases h1
      cases h2
      exact .inr ⟨nf, vs, hp, RepL.mn (fun b f => ⟨f, rfl⟩) pre t⟩
/-- a handle is frozen -/
theorem ext_frz {n : Nat} {a : Addr} (ha : r[n]? = some a) : Ext F r H (F' F a) r H :=
  ⟨fun b h => ⟨.inl h, rfl⟩, List.prefix_refl _, fun b u h _ => h, fun b h => h.elim .inl fun e => .inr (.inl (by rw [e]; exact List.mem_of_getElem? ha)), fun b h => .inl h⟩
theorem relW_frz (w : RelW K G F r H W) {n : Nat} {a : Addr} (hn : n < W.length) (ha : r[n]? = some a) : RelW K G (F' F a) r H (W.set n .dead) := by
  have e := ext_frz (F := F) (H := H) ha
  refine ⟨by rw [List.length_set]; exact w.len, w.nd, fun b h => ?_, w.rh, fun m u b h1 h2 => ?_⟩
  · rcases h with h | h
    · exact w.fr b h
    · rw [h]; exact w.rh a (List.mem_of_getElem? ha)
  · by_cases hm : n = m
    · subst hm
      rw [List.getElem?_set_self hn] at h1
      cases h1
      exact .inl rfl
    · rw [List.getElem?_set_ne hm] at h1
      have ne : b ≠ a := fun z => by subst z; exact hm (nodup_get w.nd ha h2)
      rcases w.ok m u b h1 h2 with h | ⟨nf', h⟩
      · exact .inl h
      · exact .inr ⟨fun z => z.elim nf' ne, RepS.mono e rfl h⟩
def frz (d : D) (W : Wd) : Res D := match d with
  | .hd n => match W[n]? with
    | some (.lst xs) => .ok (.lst xs) (W.set n .dead)
    | some (.ins c xs) => .ok (.ins c xs) (W.set n .dead)
    | _ => .no
  | d => .ok d W
theorem frz_ok {E : XK} {Q : VK} {d : D} {v : V} (w : RelW K G F r H W) (h : Rep K G F r H d v) (q : Post K G E Q F r H (frz d W)) : Q v H := by
  cases d with
  | hd n =>
    obtain ⟨a, ha, rfl⟩ := h.hd
    cases hw : W[n]? with
    | none => simp only [frz, hw] at q; exact q.elim
    | some s =>
      have hn : n < W.length := (List.getElem?_eq_some_iff.mp hw).1
      cases s with
      | dead => simp only [frz, hw] at q; exact q.elim
      | ro xs => simp only [frz, hw] at q; exact q.elim
      | lst xs =>
        simp only [frz, hw] at q
        rcases w.ok n _ a hw ha with z | ⟨_, z⟩
        · cases z
        · obtain ⟨vs, hs, t⟩ := z
          refine q (F' F a) r H _ (ext_frz ha) (relW_frz w hn ha) ?_
          simp only [Rep]
          exact ⟨a, vs, rfl, .inr rfl, hs, RepL.mono (ext_frz ha) t⟩
      | ins c xs =>
        simp only [frz, hw] at q
        rcases w.ok n _ a hw ha with z | ⟨_, z⟩
        · cases z
        · obtain ⟨dx, vs, hs, t⟩ := z
          refine q (F' F a) r H _ (ext_frz ha) (relW_frz w hn ha) ?_
          simp only [Rep]
          exact ⟨a, dx, vs, rfl, .inr rfl, hs, RepL.mono (ext_frz ha) t⟩
  | non => exact q F r H v .refl w h
  | bl b => exact q F r H v .refl w h
  | int b => exact q F r H v .refl w h
  | str b => exact q F r H v .refl w h
  | lst b => exact q F r H v .refl w h
  | tup b => exact q F r H v .refl w h
  | ins c b => exact q F r H v .refl w h
end
end VI
-- VGa
set_option Elab.async false
set_option linter.all false
set_option maxRecDepth 100000
set_option maxHeartbeats 2000000
namespace VI
open PySem

/-! ### generators that are not woken: what runs without them runs beside them -/
/-- the state that can't be woken, looked at as y is -/
def pz : GenState → GenState
  | .suspended _ l c p fs cl => .suspended (fun _ => .unsupported "") l c p fs cl
  | y => y
theorem pz_seen (y : GenState) : (pz y).seen = y.seen := by cases y <;> rfl
theorem pz_bare (y : GenState) : (pz y).bare = y.bare := by cases y <;> rfl
/-- the true states of those that sleep -/
abbrev Slp := Nat → Option GenState
def isSusp : GenState → Bool
  | .suspended .. => true
  | _ => false
structure SlpOk (Y : Slp) (s : Shared) : Prop where
  at_ : ∀ i y, Y i = some y → s.gens[i]? = some (pz y) ∧ isSusp y = true
/-- no frame of one that sleeps -/
def ngF (Y : Slp) (fs : List Frame) : Prop := ∀ f ∈ fs, ∀ g k l c p, f = .gen g k l c p → Y g = none
def ngE (Y : Slp) : End → Prop
  | .susp _ _ _ _ _ _ fs => ngF Y fs
  | .ret _ => True
def ngS (Y : Slp) (s : Shared) : Prop := ∀ (i : Nat) k l c p fs cl, s.gens[i]? = some (.suspended k l c p fs cl) → Y i = none → ngF Y fs
/-- the true states put in -/
def wake (Y : Slp) (s : Shared) : Shared := { s with gens := s.gens.mapIdx fun i x => (Y i).getD x }
theorem wake_get {Y : Slp} {s : Shared} {i : Nat} : (wake Y s).gens[i]? = s.gens[i]?.map fun x => (Y i).getD x := by
  simp [wake]
theorem wake_size {Y : Slp} {s : Shared} : (wake Y s).gens.size = s.gens.size := by simp [wake]
theorem ngF_nil {Y : Slp} : ngF Y [] := fun _ h => absurd h (by simp)
theorem ngF_app {Y : Slp} {a b : List Frame} (h1 : ngF Y a) (h2 : ngF Y b) : ngF Y (a ++ b) := fun f hf => (List.mem_append.mp hf).elim (h1 f) (h2 f)
theorem ngF_split {Y : Slp} : ∀ {fs pre rest : List Frame} {b : Nat × (GenResult → Sem PySem.Fin) × Code × Pos}, splitAtGen fs = some (pre, b, rest) → ngF Y fs → Y b.1 = none ∧ ngF Y pre ∧ ngF Y rest
  | [], _, _, _, h, _ => by simp [splitAtGen] at h
  | .gen i k l c p :: fs, pre, rest, b, h, n => by
    simp only [splitAtGen] at h
    cases h
    exact ⟨n _ List.mem_cons_self i k l c p rfl, ngF_nil, fun f hf => n f (List.mem_cons_of_mem _ hf)⟩
  | .ret k h' gd l c p kp :: fs, pre, rest, b, h, n => by
    rw [splitAtGen_ret] at h
    cases q : splitAtGen fs with
    | none => rw [q] at h; cases h
    | some r =>
      obtain ⟨pre', b', rest'⟩ := r
      rw [q] at h
      simp only [Option.map_some] at h
      cases h
      obtain ⟨h1, h2, h3⟩ := ngF_split q fun f hf => n f (List.mem_cons_of_mem _ hf)
      exact ⟨h1, fun f hf => (List.mem_cons.mp hf).elim (fun e => by rw [e]; exact (fun _ _ _ _ _ e => nomatch e)) (h2 f), h3⟩
theorem setGen_get {s : Shared} {g i : Nat} {x : GenState} : (s.setGen g x).gens[i]? = if g = i then (if i < s.gens.size then some x else none) else s.gens[i]? := by
  simp only [Shared.setGen, Array.getElem?_setIfInBounds]
  split
  · rename_i h; subst h; rfl
  · rfl
theorem shared_ext {s s' : Shared} (h : ∀ i : Nat, s.gens[i]? = s'.gens[i]?) (h1 : s.heap = s'.heap) (h2 : s.drawn = s'.drawn) (h3 : s.toks = s'.toks) (h4 : s.os = s'.os) : s = s' := by
  obtain ⟨a, b, c, d, e⟩ := s
  obtain ⟨a', b', c', d', e'⟩ := s'
  simp only at h h1 h2 h3 h4
  subst h1 h2 h3 h4
  have : b = b' := Array.ext_getElem? h
  rw [this]
theorem wake_set {Y : Slp} {s : Shared} {i : Nat} {x : GenState} (h : Y i = none) : wake Y (s.setGen i x) = (wake Y s).setGen i x := by
  refine shared_ext (fun j => ?_) rfl rfl rfl rfl
  rw [wake_get, setGen_get, setGen_get, wake_get, wake_size]
  by_cases hj : i = j
  · subst hj
    rw [if_pos rfl, if_pos rfl, h]
    split <;> rfl
  · rw [if_neg hj, if_neg hj]
theorem SlpOk.set {Y : Slp} {s : Shared} {i : Nat} {x : GenState} (a : SlpOk Y s) (h : Y i = none) : SlpOk Y (s.setGen i x) := ⟨fun j y e => by
  have hj : i ≠ j := fun z => by rw [← z, h] at e; cases e
  rw [setGen_get, if_neg hj]
  exact a.at_ j y e⟩
theorem ngS_set {Y : Slp} {s : Shared} {i : Nat} {x : GenState} (h : ngS Y s) (hx : ∀ k l c p fs cl, x = .suspended k l c p fs cl → ngF Y fs) : ngS Y (s.setGen i x) := fun j k l c p fs cl e hj => by
  rw [setGen_get] at e
  split at e
  · split at e
    · cases e; exact hx _ _ _ _ _ _ rfl
    · cases e
  · exact h j k l c p fs cl e hj
theorem ng_state {Y : Slp} {e : End} (h : ngE Y e) : ∀ k l c p fs cl, e.genState = .suspended k l c p fs cl → ngF Y fs := fun k l c p fs cl q => by
  cases e with
  | ret r => cases q
  | susp v gd l' k' c' p' fs' => cases q; exact h
theorem SlpOk.lt {Y : Slp} {s : Shared} (a : SlpOk Y s) : Y s.gens.size = none := by
  cases q : Y s.gens.size with
  | none => rfl
  | some y =>
    have := (a.at_ _ y q).1
    rw [Array.getElem?_eq_none (Nat.le_refl _)] at this
    cases this
theorem slp_new {Y : Slp} {s : Shared} {c : Code} (a : SlpOk Y s) (b : ngS Y s) : SlpOk Y { s with gens := s.gens.push (.fresh c) } ∧ ngS Y { s with gens := s.gens.push (.fresh c) } ∧
    wake Y { s with gens := s.gens.push (.fresh c) } = { wake Y s with gens := (wake Y s).gens.push (.fresh c) } := by
  refine ⟨⟨fun j y e => ?_⟩, fun i k l c' p fs cl e hi => ?_, ?_⟩
  · obtain ⟨h1, h2⟩ := a.at_ j y e
    have lt : j < s.gens.size := (Array.getElem?_eq_some_iff.mp h1).1
    refine ⟨?_, h2⟩
    show (s.gens.push (.fresh c))[j]? = _
    rw [Array.getElem?_push_lt lt, ← Array.getElem?_eq_getElem lt]
    exact h1
  · have e2 : (s.gens.push (.fresh c))[i]? = some (.suspended k l c' p fs cl) := e
    rw [Array.getElem?_push] at e2
    split at e2
    · cases e2
    · exact b i k l c' p fs cl e2 hi
  · refine shared_ext (fun j => ?_) rfl rfl rfl rfl
    rw [wake_get]
    show ((s.gens.push (.fresh c))[j]?).map _ = ((wake Y s).gens.push (.fresh c))[j]?
    rw [Array.getElem?_push, Array.getElem?_push, wake_size, wake_get]
    by_cases hj : j = s.gens.size
    · rw [if_pos hj, if_pos hj, hj, Option.map_some, a.lt]
      rfl
    · rw [if_neg hj, if_neg hj]
theorem no_runs {M : Model} {fs : List Frame} {Γ : Ctx} {p : Pos} {s : Shared} {e : End} {s' : Shared} (h : Runs M Γ p (.unsupported "") fs s e s') : False := by
  cases h with
  | segRet h1 _ => cases h1
  | segGen h1 _ => cases h1
  | segSuspOut _ h1 => cases h1
  | segSuspGen _ h1 _ _ => cases h1
/-- one that sleeps is neither fresh nor running nor over; waking it does not end -/
theorem SlpOk.not_ {Y : Slp} {s : Shared} (a : SlpOk Y s) {i : Nat} {x : GenState} (h : s.gens[i]? = some x) (hx : isSusp x = false) : Y i = none := by
  cases q : Y i with
  | none => rfl
  | some y =>
    obtain ⟨h1, h2⟩ := a.at_ i y q
    rw [h] at h1
    cases h1
    cases y <;> simp [isSusp, pz] at h2 hx
theorem SlpOk.susp {Y : Slp} {s : Shared} (a : SlpOk Y s) {i : Nat} {k : Resume → Sem PySem.Fin} {l : List Value} {c : Code} {p : Pos} {fs : List Frame} {cl : Bool} (h : s.gens[i]? = some (.suspended k l c p fs cl)) {M : Model} {Γ : Ctx} {p' : Pos} {r : Resume} {s1 s2 : Shared} {e : End} (hr : Runs M Γ p' (k r) fs s1 e s2) : Y i = none := by
  cases q : Y i with
  | none => rfl
  | some y =>
    obtain ⟨h1, h2⟩ := a.at_ i y q
    rw [h] at h1
    cases y <;> simp [isSusp] at h2
    simp only [pz] at h1
    cases h1
    exact (no_runs hr).elim
theorem wake_none {Y : Slp} {s : Shared} {i : Nat} (h : Y i = none) : (wake Y s).gens[i]? = s.gens[i]? := by
  rw [wake_get, h]
  cases s.gens[i]? <;> rfl
end VI
-- VGb
set_option Elab.async false
set_option linter.all false
set_option maxRecDepth 100000
set_option maxHeartbeats 2000000
namespace VI
open PySem
/-- a run that leaves the sleepers alone -/
theorem runs_frame {M : Model} {Y : Slp} {Γ : Ctx} {p : Pos} {t : Sem PySem.Fin} {fs : List Frame} {s s' : Shared} {e : End} (h : Runs M Γ p t fs s e s') :
    SlpOk Y s → ngS Y s → ngF Y fs → SlpOk Y s' ∧ ngS Y s' ∧ ngE Y e ∧ Runs M Γ p t fs (wake Y s) e (wake Y s') := by
  induction h with
  | done => exact fun a b c => ⟨a, b, trivial, .done⟩
  | raise => exact fun a b c => ⟨a, b, trivial, .raise⟩
  | again q _ ih => intro a b c; obtain ⟨h1, h2, h3, h4⟩ := ih a b ngF_nil; exact ⟨h1, h2, h3, .again q h4⟩
  | rule _ ih => intro a b c; obtain ⟨h1, h2, h3, h4⟩ := ih a b ngF_nil; exact ⟨h1, h2, h3, .rule h4⟩
  | «at» _ ih => intro a b c; obtain ⟨h1, h2, h3, h4⟩ := ih a b ngF_nil; exact ⟨h1, h2, h3, .at h4⟩
  | load q _ ih => intro a b c; obtain ⟨h1, h2, h3, h4⟩ := ih a b ngF_nil; exact ⟨h1, h2, h3, .load q h4⟩
  | update q _ ih => intro a b c; obtain ⟨h1, h2, h3, h4⟩ := ih ⟨a.at_⟩ b ngF_nil; exact ⟨h1, h2, h3, .update q h4⟩
  | loadIfAlive _ ih => intro a b c; obtain ⟨h1, h2, h3, h4⟩ := ih a b ngF_nil; exact ⟨h1, h2, h3, .loadIfAlive h4⟩
  | point _ ih => intro a b c; obtain ⟨h1, h2, h3, h4⟩ := ih a b ngF_nil; exact ⟨h1, h2, h3, .point h4⟩
  | alloc _ ih => intro a b c; obtain ⟨h1, h2, h3, h4⟩ := ih ⟨a.at_⟩ b ngF_nil; exact ⟨h1, h2, h3, .alloc h4⟩
  | fresh _ ih => intro a b c; obtain ⟨h1, h2, h3, h4⟩ := ih ⟨a.at_⟩ b ngF_nil; exact ⟨h1, h2, h3, .fresh h4⟩
  | ask _ ih => intro a b c; obtain ⟨h1, h2, h3, h4⟩ := ih a b ngF_nil; exact ⟨h1, h2, h3, .ask h4⟩
  | choose q _ ih => intro a b c; obtain ⟨h1, h2, h3, h4⟩ := ih ⟨a.at_⟩ b ngF_nil; exact ⟨h1, h2, h3, .choose q h4⟩
  | os _ ih => intro a b c; obtain ⟨h1, h2, h3, h4⟩ := ih ⟨a.at_⟩ b ngF_nil; exact ⟨h1, h2, h3, .os h4⟩
  | handled _ ih => intro a b c; obtain ⟨h1, h2, h3, h4⟩ := ih a b ngF_nil; exact ⟨h1, h2, h3, .handled h4⟩
  | stack _ ih => intro a b c; obtain ⟨h1, h2, h3, h4⟩ := ih a b ngF_nil; exact ⟨h1, h2, h3, .stack h4⟩
  | thread _ ih => intro a b c; obtain ⟨h1, h2, h3, h4⟩ := ih a b ngF_nil; exact ⟨h1, h2, h3, .thread h4⟩
  | @genState i st Γ p k s e s' q _ ih =>
    intro a b c
    obtain ⟨h1, h2, h3, h4⟩ := ih a b ngF_nil
    refine ⟨h1, h2, h3, .genState (st := (Y i).getD st) (by rw [wake_get, q]; rfl) ?_⟩
    have : ((Y i).getD st).seen = st.seen := by
      cases hy : Y i with
      | none => rfl
      | some y =>
        obtain ⟨k1, _⟩ := a.at_ i y hy
        rw [q] at k1
        cases k1
        exact (pz_seen y).symm
    rw [this]
    exact h4
  | @newGen Γ p k s e s' c _ ih =>
    intro a b c'
    obtain ⟨a2, b2, w2⟩ := slp_new (c := c) a b
    obtain ⟨h1, h2, h3, h4⟩ := ih a2 b2 ngF_nil
    refine ⟨h1, h2, h3, .newGen ?_⟩
    rw [wake_size, ← w2]
    exact h4
  | call _ _ ih1 ih2 =>
    intro a b c
    obtain ⟨h1, h2, h3, h4⟩ := ih1 a b ngF_nil
    obtain ⟨k1, k2, k3, k4⟩ := ih2 h1 h2 ngF_nil
    exact ⟨k1, k2, k3, .call h4 k4⟩
  | callSusp _ ih1 =>
    intro a b c
    obtain ⟨h1, h2, h3, h4⟩ := ih1 a b ngF_nil
    exact ⟨h1, h2, ngF_app h3 (fun f hf => by rw [List.mem_singleton.mp hf]; exact (fun _ _ _ _ _ e => nomatch e)), .callSusp h4⟩
  | yield => exact fun a b c => ⟨a, b, ngF_nil, .yield⟩
  | @resumeFresh Γ p i l k s c e1 s1 e s' q _ hq _ ih1 ih2 =>
    intro a b c'
    have hi : Y i = none := a.not_ q rfl
    obtain ⟨h1, h2, h3, h4⟩ := ih1 (a.set hi) (ngS_set b fun _ _ _ _ _ _ e => nomatch e) ngF_nil
    obtain ⟨k1, k2, k3, k4⟩ := ih2 (h1.set hi) (ngS_set h2 (ng_state h3)) ngF_nil
    exact ⟨k1, k2, k3, .resumeFresh (by rw [wake_none hi]; exact q) (by rw [← wake_set hi]; exact h4) hq (by rw [← wake_set hi]; exact k4)⟩
  | @resumeSuspended Γ p i r l k s k0 l0' c0' p0' fs0' cl e1 s1 e s' q hr hq _ ih1 ih2 =>
    intro a b c'
    have hi : Y i = none := a.susp q hr
    obtain ⟨h1, h2, h3, h4⟩ := ih1 (a.set hi) (ngS_set b fun _ _ _ _ _ _ e => nomatch e) (b i _ _ _ _ _ _ q hi)
    obtain ⟨k1, k2, k3, k4⟩ := ih2 (h1.set hi) (ngS_set h2 (ng_state h3)) ngF_nil
    exact ⟨k1, k2, k3, .resumeSuspended (by rw [wake_none hi]; exact q) (by rw [← wake_set hi]; exact h4) hq (by rw [← wake_set hi]; exact k4)⟩
  | @resumeJustStarted i v Γ p k s e s' l c q hv _ ih =>
    intro a b c'
    obtain ⟨h1, h2, h3, h4⟩ := ih a b ngF_nil
    exact ⟨h1, h2, h3, .resumeJustStarted (by rw [wake_none (a.not_ q rfl)]; exact q) hv h4⟩
  | @resumeThrowFresh i Γ p k e s' xx l s c q _ ih =>
    intro a b c'
    have hi : Y i = none := a.not_ q rfl
    obtain ⟨h1, h2, h3, h4⟩ := ih (a.set hi) (ngS_set b fun _ _ _ _ _ _ e => nomatch e) ngF_nil
    exact ⟨h1, h2, h3, .resumeThrowFresh (by rw [wake_none hi]; exact q) (by rw [← wake_set hi]; exact h4)⟩
  | @resumeRunning i Γ p k s e s' r l q _ ih =>
    intro a b c'
    obtain ⟨h1, h2, h3, h4⟩ := ih a b ngF_nil
    exact ⟨h1, h2, h3, .resumeRunning (by rw [wake_none (a.not_ q rfl)]; exact q) h4⟩
  | @resumeFinished i Γ p k s e s' r l q _ ih =>
    intro a b c'
    obtain ⟨h1, h2, h3, h4⟩ := ih a b ngF_nil
    exact ⟨h1, h2, h3, .resumeFinished (by rw [wake_none (a.not_ q rfl)]; exact q) h4⟩
  | segRet _ _ ih1 ih2 =>
    intro a b c
    obtain ⟨h1, h2, h3, h4⟩ := ih1 a b ngF_nil
    obtain ⟨k1, k2, k3, k4⟩ := ih2 h1 h2 fun f hf => c f (List.mem_cons_of_mem _ hf)
    exact ⟨k1, k2, k3, .segRet h4 k4⟩
  | @segGen Γ p t i k l c1 p1 fs s r s1 e s' _ _ ih1 ih2 =>
    intro a b c
    have hi : Y i = none := c _ List.mem_cons_self i k l c1 p1 rfl
    obtain ⟨h1, h2, h3, h4⟩ := ih1 a b ngF_nil
    obtain ⟨k1, k2, k3, k4⟩ := ih2 (h1.set hi) (ngS_set h2 fun _ _ _ _ _ _ e => nomatch e) fun f hf => c f (List.mem_cons_of_mem _ hf)
    exact ⟨k1, k2, k3, .segGen h4 (by rw [← wake_set hi]; exact k4)⟩
  | segSuspOut q _ ih1 =>
    intro a b c
    obtain ⟨h1, h2, h3, h4⟩ := ih1 a b ngF_nil
    exact ⟨h1, h2, ngF_app h3 c, .segSuspOut q h4⟩
  | @segSuspGen Γ p t F fs pre i k c1 p1 rest s v gd l k0 cc pp fs0' s1 e s' q _ hq _ ih1 ih2 =>
    intro a b c
    obtain ⟨hi, n2, n3⟩ := ngF_split q c
    obtain ⟨h1, h2, h3, h4⟩ := ih1 a b ngF_nil
    have h3' : ngE Y (.susp v gd l k0 cc pp (fs0' ++ pre)) := ngF_app h3 n2
    obtain ⟨k1, k2, k3, k4⟩ := ih2 (h1.set hi) (ngS_set h2 (ng_state h3')) n3
    exact ⟨k1, k2, k3, .segSuspGen q h4 hq (by rw [← wake_set hi]; exact k4)⟩
end VI
-- VGc
set_option Elab.async false
set_option linter.all false
set_option maxRecDepth 100000
set_option maxHeartbeats 2000000
namespace VI
open PySem
open Sem (wp)
/-- what is wanted of the state with the sleepers poisoned is told of the true one -/
def atG {α : Type} (Y : Slp) (Q : α → Pos → Shared → Prop) : α → Pos → Shared → Prop := fun a p s' => ∃ s'', s' = wake Y s'' ∧ SlpOk Y s'' ∧ ngS Y s'' ∧ Q a p s''
section
variable {M : Model} {Γ : Ctx} {Y : Slp}
theorem wp_frame {α : Type} (t : Sem α) : ∀ (Q : α → Pos → Shared → Prop) (E : Value → Pos → Shared → Prop) (p : Pos) (s : Shared), SlpOk Y s → ngS Y s → wp M Γ t Q E p s →
    wp M Γ t (atG Y Q) (atG Y E) p (wake Y s) := by
  induction t with
  | pure a => intro Q E p s h1 h2 h; exact ⟨s, rfl, h1, h2, h⟩
  | raise e => intro Q E p s h1 h2 h; exact ⟨s, rfl, h1, h2, h⟩
  | unsupported _ => intro Q E p s _ _ h; exact h
  | finish _ => intro Q E p s _ _ h; exact h
  | rule _ k ih => intro Q E p s h1 h2 h; exact ih () Q E p s h1 h2 h
  | «at» p' k ih => intro Q E p s h1 h2 h; exact ih () Q E p' s h1 h2 h
  | load a _ k ih => intro Q E p s h1 h2 h; obtain ⟨o, ho, h⟩ := h; exact ⟨o, ho, ih o Q E p s h1 h2 h⟩
  | update a _ f k ih => intro Q E p s h1 h2 h; exact ⟨h.1, ih () Q E p { s with heap := s.heap.update a f } ⟨h1.at_⟩ h2 h.2⟩
  | loadIfAlive a k ih => intro Q E p s h1 h2 h; exact ih _ Q E p s h1 h2 h
  | point _ k ih => intro Q E p s h1 h2 h; exact ih () Q E p s h1 h2 h
  | register _ _ => intro Q E p s _ _ h; exact h
  | alloc o k ih => intro Q E p s h1 h2 h; exact ih _ Q E p { s with heap := s.heap.push o } ⟨h1.at_⟩ h2 h
  | fresh k ih => intro Q E p s h1 h2 h; exact ih _ Q E p { s with toks := s.toks + 1 } ⟨h1.at_⟩ h2 h
  | ask k ih => intro Q E p s h1 h2 h; exact ih _ Q E p s h1 h2 h
  | choose src m k ih => intro Q E p s h1 h2 h; exact ⟨h.1, ih _ Q E p { s with drawn := s.drawn.bump src } ⟨h1.at_⟩ h2 h.2⟩
  | os q _ k ih => intro Q E p s h1 h2 h; exact ih _ Q E p { s with os := (Os.step s.os q).1 } ⟨h1.at_⟩ h2 h
  | call c hd _ _ k ih =>
    intro Q E p s h1 h2 h
    obtain ⟨r, s', hr, h⟩ := h
    obtain ⟨k1, k2, _, k4⟩ := runs_frame hr h1 h2 ngF_nil
    exact ⟨r, wake Y s', k4, ih r Q E p s' k1 k2 h⟩
  | handled own k ih => intro Q E p s h1 h2 h; exact ih _ Q E p s h1 h2 h
  | genState i k ih =>
    intro Q E p s h1 h2 h
    obtain ⟨st, hs, h⟩ := h
    refine ⟨(Y i).getD st, by rw [wake_get, hs]; rfl, ?_⟩
    have : ((Y i).getD st).seen = st.seen := by
      cases hy : Y i with
      | none => rfl
      | some y =>
        obtain ⟨k1, _⟩ := h1.at_ i y hy
        rw [hs] at k1
        cases k1
        exact (pz_seen y).symm
    rw [this]
    exact ih _ Q E p s h1 h2 h
  | newGen c k ih =>
    intro Q E p s h1 h2 h
    obtain ⟨a2, b2, w2⟩ := slp_new (c := c) h1 h2
    have h3 := ih _ Q E p _ a2 b2 h
    rw [w2] at h3
    show wp M Γ (k (wake Y s).gens.size) _ _ p _
    rw [wake_size]
    exact h3
  | resume i r _ k ih =>
    intro Q E p s h1 h2 h
    obtain ⟨res, s', hw, h⟩ := h
    have key : SlpOk Y s' ∧ ngS Y s' ∧ Wakes M Γ p i r (wake Y s) res (wake Y s') := by
      unfold Wakes at hw ⊢
      cases q : s.gens[i]? with
      | none => rw [q] at hw; exact hw.elim
      | some st =>
        rw [q] at hw
        cases st with
        | fresh c =>
          have hi := h1.not_ q rfl
          rw [wake_none hi, q]
          simp only at hw ⊢
          split at hw
          · obtain ⟨e1, s1, hr, hq, hres, hs'⟩ := hw
            obtain ⟨k1, k2, k3, k4⟩ := runs_frame hr (h1.set hi) (ngS_set h2 fun _ _ _ _ _ _ e => nomatch e) ngF_nil
            subst hs'
            exact ⟨k1.set hi, ngS_set k2 (ng_state k3), e1, wake Y s1, by rw [← wake_set hi]; exact k4, hq, hres, wake_set hi⟩
          · obtain ⟨hres, hs'⟩ := hw
            subst hs'
            exact ⟨h1, h2, hres, rfl⟩
          · obtain ⟨hres, hs'⟩ := hw
            subst hs'
            exact ⟨h1.set hi, ngS_set h2 (fun _ _ _ _ _ _ e => nomatch e), hres, wake_set hi⟩
        | suspended k0 l0 c0 p0 fs0 cl0 =>
          simp only at hw
          obtain ⟨e1, s1, hr, hq, hres, hs'⟩ := hw
          have hi := h1.susp q hr
          rw [wake_none hi, q]
          obtain ⟨k1, k2, k3, k4⟩ := runs_frame hr (h1.set hi) (ngS_set h2 fun _ _ _ _ _ _ e => nomatch e) (h2 i _ _ _ _ _ _ q hi)
          subst hs'
          exact ⟨k1.set hi, ngS_set k2 (ng_state k3), e1, wake Y s1, by rw [← wake_set hi]; exact k4, hq, hres, wake_set hi⟩
        | running =>
          rw [wake_none (h1.not_ q rfl), q]
          obtain ⟨hres, hs'⟩ := hw
          subst hs'
          exact ⟨h1, h2, hres, rfl⟩
        | finished =>
          rw [wake_none (h1.not_ q rfl), q]
          obtain ⟨hres, hs'⟩ := hw
          subst hs'
          exact ⟨h1, h2, hres, rfl⟩
    obtain ⟨k1, k2, k3⟩ := key
    exact ⟨res, wake Y s', k3, ih res Q E p s' k1 k2 h⟩
  | yield _ _ _ _ => intro Q E p s _ _ h; exact h
  | stack k ih => intro Q E p s h1 h2 h; exact ih _ Q E p s h1 h2 h
  | fork _ _ => intro Q E p s _ _ h; exact h
  | thread k ih => intro Q E p s h1 h2 h; exact ih _ Q E p s h1 h2 h
  | await _ _ _ _ _ => intro Q E p s _ _ h; exact h
end
/-! ### by the heap's logic -/
/-- all that sleep -/
def slp (s : Shared) : Slp := fun i => match s.gens[i]? with
  | some (.suspended k l c p fs cl) => some (.suspended k l c p fs cl)
  | _ => none
/-- them poisoned -/
def doze (s : Shared) : Shared := { s with gens := s.gens.map pz }
theorem doze_ok (s : Shared) : SlpOk (slp s) (doze s) := ⟨fun i y h => by
  unfold slp at h
  split at h
  · rename_i q
    cases h
    exact ⟨by simp [doze, q], rfl⟩
  · cases h⟩
theorem doze_ng (s : Shared) : ngS (slp s) (doze s) := fun i k l c p fs cl e h => by
  unfold slp at h
  split at h
  · cases h
  · rename_i hn
    exfalso
    simp only [doze, Array.getElem?_map] at e
    cases q : s.gens[i]? with
    | none => rw [q] at e; cases e
    | some st =>
      rw [q] at e
      cases st <;> simp [pz] at e
      exact hn _ _ _ _ _ _ q
theorem doze_wake (s : Shared) : wake (slp s) (doze s) = s := by
  refine shared_ext (fun i => ?_) rfl rfl rfl rfl
  rw [wake_get]
  simp only [doze, Array.getElem?_map, slp]
  cases q : s.gens[i]? with
  | none => rfl
  | some st => cases st <;> rfl
theorem wpAny_doze {α : Type} {M : Model} {A : Around} {s : Shared} {t : Sem α} {Q : α → Shared → Prop} {E : Value → Shared → Prop} (h : wpAny M A t Q E (doze s)) :
    wpAny M A t (fun a s' => ∃ s'', s' = wake (slp s) s'' ∧ SlpOk (slp s) s'' ∧ Q a s'') (fun e s' => ∃ s'', s' = wake (slp s) s'' ∧ SlpOk (slp s) s'' ∧ E e s'') s := fun Γ p hΓ => by
  have := wp_frame (Y := slp s) t _ _ p _ (doze_ok s) (doze_ng s) (h Γ p hΓ)
  rw [doze_wake] at this
  exact Sem.wp_mono M Γ t (fun a _ s' ⟨s'', e, k1, _, q⟩ => ⟨s'', e, k1, q⟩) (fun a _ s' ⟨s'', e, k1, _, q⟩ => ⟨s'', e, k1, q⟩) p s this
/-- a generator that sleeps is as it was -/
theorem wake_slp {s s'' : Shared} {g : Nat} {st : GenState} (h : s.gens[g]? = some st) (hs : isSusp st = true) (k : SlpOk (slp s) s'') : (wake (slp s) s'').gens[g]? = some st := by
  have hy : slp s g = some st := by
    unfold slp
    rw [h]
    cases st <;> simp [isSusp] at hs
    rfl
  rw [wake_get, (k.at_ g st hy).1, hy]
  rfl
theorem bare_doze {s : Shared} (h : PyProof.Rows.AllBare s.gens) : PyProof.Rows.AllBare (doze s).gens := fun y hy => by
  simp only [doze, Array.mem_map] at hy
  obtain ⟨x, hx, rfl⟩ := hy
  rw [pz_bare]
  exact h x hx
theorem bare_wake {s s'' : Shared} (h : PyProof.Rows.AllBare s.gens) (k : PyProof.Rows.AllBare s''.gens) : PyProof.Rows.AllBare (wake (slp s) s'').gens := fun y hy => by
  simp only [wake] at hy
  obtain ⟨i, hi, e⟩ := Array.mem_iff_getElem.mp hy
  simp only [Array.getElem_mapIdx] at e
  cases q : slp s i with
  | none => rw [q] at e; rw [← e]; exact k _ (Array.getElem_mem _)
  | some z =>
    rw [q] at e
    simp only [Option.getD_some] at e
    rw [← e]
    unfold slp at q
    split at q
    · rename_i q2
      cases q
      exact h _ (Array.mem_of_getElem? q2)
    · cases q
end VI
-- VGd
set_option Elab.async false
set_option linter.all false
set_option maxRecDepth 100000
set_option maxHeartbeats 2000000
namespace VI
open PySem
open Sem (wp)
section
variable {M : Model} {A : Around} {R : GenEnd} {Y : Protocol} {n : Nat} {s₀ : Shared} {c : Code} {fs : List Frame} {s : Shared} {env : Env}
  {K : Flow → Sem PySem.Fin} {J : Value → Sem PySem.Fin} {gd : Bool → Bool} {lv : List Value → List Value}
theorem seg_bindw {α β : Type} {m : Sem α} {k : α → Sem β} {K : β → Sem PySem.Fin} {J : Value → Sem PySem.Fin}
    (h : wpAny M (A.over c fs) m (fun a s' => Seg M A R Y n s₀ c ((k a).wrap K J gd lv) fs s') (fun x s' => Seg M A R Y n s₀ c (J x) fs s') s) :
    Seg M A R Y n s₀ c ((m >>= k).wrap K J gd lv) fs s := by
  rw [Sem.bind_eq_wrap', Sem.wrap_wrap]
  exact seg_wrap h
/-- what a loop's call does with an exception that comes back -/
abbrev backK (env : Env) (K : Flow → Sem PySem.Fin) (J : Value → Sem PySem.Fin) (gd : Bool → Bool) (lv : List Value → List Value) : Result → Sem PySem.Fin :=
  fun r => ((match r with | .ok f => (.pure f : Sem Flow) | .error e => .raise e).onRaise fun (x : Value) => do
        if (← field x 1) == Value.none then unsupported "frame.own-activation:exception-without-traceback"
        setFlight x env.frame).wrap K J gd lv
theorem seg_ForS {target iter : Expr} {body orelse : List Stmt} {pos : Pos}
    (h : wpAny M (A.over c fs) (eval iter env) (fun x s1 => wpAny M (A.over c fs) (pyIter x) (fun it s2 => ∀ p, Seg M A R Y n s₀ (.forLoop target it body orelse env) (M.den (.forLoop target it body orelse env))
      (.ret (backK env K J gd lv) none (gd false) (lv []) c p [] :: fs) s2) (fun x s' => Seg M A R Y n s₀ c (J x) fs s') s1) (fun x s' => Seg M A R Y n s₀ c (J x) fs s') s)
    (hs : ∀ x, foldedSetIterable iter env x = pure x) : Seg M A R Y n s₀ c ((exec (.For target iter body orelse pos) env).wrap K J gd lv) fs s := by
  rw [exec_For]
  refine seg_bindw (wpAny_standAt (seg_bindw ?_))
  refine wpAny_mono h (fun x s1 h1 => ?_) fun _ _ z => z
  rw [hs x]
  refine seg_bindw (wpAny_pure (seg_bindw (wpAny_standAt (seg_bindw (wpAny_holding (wpAny_mono h1 (fun it s2 h2 => ?_) fun _ _ z => z))))))
  exact seg_call h2
end
section
variable {prog : Program} {w : World} {A : Around} {R : GenEnd} {Y : Protocol} {n : Nat} {s₀ : Shared} {fs : List Frame} {s : Shared} {env : Env}
/-- behind an exception in a loop -/
abbrev outL (env : Env) : Value → Sem PySem.Fin := fun e => (do noteFrame e env; theTreesLotGoes e : Sem Unit).wrap (fun _ => .raise e) .raise id id
theorem seg_forLoop {target : Expr} {it : Value} {body : List Stmt}
    (h : wpAny (model prog w) (A.over (.forLoop target it body [] env) fs) (pyNext it) (fun r s1 => match r with
        | none => Seg (model prog w) A R Y n s₀ (.forLoop target it body [] env) (.pure (.again (.block [] env))) fs s1
        | some v => wpAny (model prog w) (A.over (.forLoop target it body [] env) fs) (letOwnedTupleGo target it v) (fun _ s2 => wpAny (model prog w) (A.over (.forLoop target it body [] env) fs) (assign target env v) (fun _ s3 =>
          Seg (model prog w) A R Y n s₀ (.forLoop target it body [] env) ((execs body env).wrap (fun f => match f with
            | .next | .cont => .pure (.again (.forLoop target it body [] env))
            | .brk => .pure (.done .next)
            | .ret v => .pure (.done (.ret v))) (outL env) id id) fs s3) (fun _ _ => False) s2) (fun _ _ => False) s1)
      (fun _ _ => False) s) :
    Seg (model prog w) A R Y n s₀ (.forLoop target it body [] env) ((model prog w).den (.forLoop target it body [] env)) fs s := by
  show Seg _ A R Y n s₀ _ ((forTurn target it body [] env).onRaise (fun x => do noteFrame x env; theTreesLotGoes x)) fs s
  unfold forTurn
  rw [Sem.onRaise_eq_wrap]
  refine seg_bindw (wpAny_standAt (seg_bindw ?_))
  refine wpAny_onRaise (wpAny_mono h (fun r s1 h1 => ?_) fun _ _ z => z.elim)
  cases r with
  | none => exact h1
  | some v =>
    simp only at h1 ⊢
    refine seg_bindw (wpAny_mono h1 (fun _ s2 h2 => seg_bindw (wpAny_mono h2 (fun _ s3 h3 => ?_) fun _ _ z => z.elim)) fun _ _ z => z.elim)
    rw [Sem.bind_eq_wrap', Sem.wrap_wrap]
    rw [Sem.wrap_congr (execs body env) _ _ (K' := fun f => match f with
            | .next | .cont => .pure (.again (.forLoop target it body [] env))
            | .brk => .pure (.done .next)
            | .ret v => .pure (.done (.ret v))) (H' := outL env)
        (fun f => by cases f <;> rfl)
        (fun e => by first | exact Sem.bind_eq_wrap _ _ | (show (do noteFrame e env; theTreesLotGoes e : Sem Unit).bind (fun _ => .raise e) = _; rw [Sem.bind_eq_wrap]))]
    exact h3
end
end VI
-- VGh
set_option Elab.async false
set_option linter.all false
set_option maxRecDepth 100000
set_option maxHeartbeats 2000000
namespace VI
open PySem
open Sem (wp)
/-! ### a heap never shrinks -/
abbrev hz (s : Shared) : Nat := s.heap.objs.size
theorem hz_upd {h : Heap} {a : Addr} {f : Obj → Obj} : (h.update a f).objs.size = h.objs.size := by
  simp [Heap.update]
theorem runs_hz {M : Model} {Γ : Ctx} {p : Pos} {t : Sem PySem.Fin} {fs : List Frame} {s s' : Shared} {e : End} (r : Runs M Γ p t fs s e s') : hz s ≤ hz s' := by
  induction r <;> (try simp only [hz, Shared.setGen, hz_upd, Heap.size_push] at *) <;> omega
theorem wakes_hz {M : Model} {Γ : Ctx} {p : Pos} {g : Nat} {r : Resume} {s s' : Shared} {res : GenResult} (x : Wakes M Γ p g r s res s') : hz s ≤ hz s' := by
  unfold Wakes at x
  split at x
  · exact x.elim
  · split at x
    · obtain ⟨_, s1, a, _, _, b⟩ := x; subst b; have z := runs_hz a; exact z
    · obtain ⟨_, b⟩ := x; subst b; exact Nat.le_refl _
    · obtain ⟨_, b⟩ := x; subst b; exact Nat.le_refl _
  · obtain ⟨_, s1, a, _, _, b⟩ := x; subst b; have z := runs_hz a; exact z
  · obtain ⟨_, b⟩ := x; subst b; exact Nat.le_refl _
  · obtain ⟨_, b⟩ := x; subst b; exact Nat.le_refl _
def wide {α : Type} (n : Nat) (Q : α → Pos → Shared → Prop) : α → Pos → Shared → Prop := fun a p s => n ≤ hz s ∧ Q a p s
theorem wp_hz {α : Type} {M : Model} {Γ : Ctx} {n : Nat} (t : Sem α) : ∀ (Q : α → Pos → Shared → Prop) (E : Value → Pos → Shared → Prop) (p : Pos) (s : Shared), n ≤ hz s → wp M Γ t Q E p s → wp M Γ t (wide n Q) (wide n E) p s := by
  induction t with
  | pure a => exact fun _ _ _ _ a b => ⟨a, b⟩
  | raise e => exact fun _ _ _ _ a b => ⟨a, b⟩
  | unsupported _ => exact fun _ _ _ _ _ b => b
  | finish _ => exact fun _ _ _ _ _ b => b
  | rule _ k ih => exact fun Q E p s a b => ih () Q E p s a b
  | «at» q k ih => exact fun Q E _ s a b => ih () Q E q s a b
  | load _ _ k ih => exact fun Q E p s a ⟨o, c, b⟩ => ⟨o, c, ih o Q E p s a b⟩
  | update x _ f k ih =>
    refine fun Q E p s a b => ⟨b.1, ih () Q E p _ ?_ b.2⟩
    show n ≤ (s.heap.update x f).objs.size
    rw [hz_upd]; exact a
  | loadIfAlive _ k ih => exact fun Q E p s a b => ih _ Q E p s a b
  | point _ k ih => exact fun Q E p s a b => ih () Q E p s a b
  | register _ _ => exact fun _ _ _ _ _ b => b
  | alloc o k ih =>
    refine fun Q E p s a b => ih _ Q E p _ ?_ b
    show n ≤ (s.heap.push o).objs.size
    rw [Heap.size_push]; exact Nat.le_succ_of_le a
  | fresh k ih => exact fun Q E p s a b => ih _ Q E p _ a b
  | ask k ih => exact fun Q E p s a b => ih _ Q E p s a b
  | choose _ _ k ih => exact fun Q E p s a b => ⟨b.1, ih _ Q E p _ a b.2⟩
  | os _ _ k ih => exact fun Q E p s a b => ih _ Q E p _ a b
  | call _ _ _ _ k ih => exact fun Q E p s a ⟨r, s1, c, b⟩ => ⟨r, s1, c, ih r Q E p s1 (Nat.le_trans a (runs_hz c)) b⟩
  | handled _ k ih => exact fun Q E p s a b => ih _ Q E p s a b
  | genState _ k ih => exact fun Q E p s a ⟨y, c, b⟩ => ⟨y, c, ih _ Q E p s a b⟩
  | newGen _ k ih => exact fun Q E p s a b => ih _ Q E p _ a b
  | resume _ _ _ k ih => exact fun Q E p s a ⟨r, s1, c, b⟩ => ⟨r, s1, c, ih r Q E p s1 (Nat.le_trans a (wakes_hz c)) b⟩
  | yield _ _ _ _ => exact fun _ _ _ _ _ b => b
  | stack k ih => exact fun Q E p s a b => ih _ Q E p s a b
  | fork _ _ => exact fun _ _ _ _ _ b => b
  | thread k ih => exact fun Q E p s a b => ih _ Q E p s a b
  | await _ _ _ _ _ => exact fun _ _ _ _ _ b => b
theorem wpAny_hz {α : Type} {M : Model} {A : Around} {s : Shared} {t : Sem α} {Q : α → Shared → Prop} {E : Value → Shared → Prop}
    (h : wpAny M A t (fun a s' => hz s ≤ hz s' → Q a s') (fun e s' => hz s ≤ hz s' → E e s') s) : wpAny M A t Q E s := fun Γ p hΓ =>
  Sem.wp_mono M Γ t (fun _ _ _ x => x.2 x.1) (fun _ _ _ x => x.2 x.1) p s (wp_hz (n := hz s) t _ _ p s (Nat.le_refl _) (h Γ p hΓ))
end VI
-- VGf
set_option Elab.async false
set_option linter.all false
set_option maxRecDepth 100000
set_option maxHeartbeats 2000000
namespace VI
open PySem
open Sem (wp)
/-! ### for a, b in enumerate(self.x): yield (a, b) -/
/-- the generator's own objects at turn i -/
structure GF (L e it l : Addr) (N i : Nat) (h : Heap) : Prop where
  ns : ∃ m, h.Ns L m
  en : ∃ old, IsEnum h e it ((i : Nat) : Int) old
  li : h.IsListIter it l i
  ls : ∃ items : Array Value, h.IsList l items ∧ items.size = N
  eit : e ≠ it
  eL : e ≠ L
  iL : it ≠ L
  lL : l ≠ L
  le : l ≠ e
  lit : l ≠ it
/-- from a turn's begin: only the heap grew, the own objects turned -/
def GSince (fp : List Addr) (s₀ s : Shared) : Prop := ∃ h' tk, s = { s₀ with heap := h', toks := tk } ∧ ∀ b o, b ∉ fp → s₀.heap.get? b = some o → h'.get? b = some o
def GYd (L e it l : Addr) (N : Nat) : Protocol := fun m s₀ v s1 kap =>
  ∃ (i : Nat) (items : Array Value) (T : Addr) (x : Value) (tk : Tok), m + i + 1 = N ∧ s₀.heap.IsList l items ∧ items[i]? = some x ∧ v = .ref T ∧ s₀.heap.objs.size ≤ T ∧
    s1.heap.get? T = some { cls := .type "tuple", data := .seq #[.int i tk, x] } ∧ GSince [L, e, it] s₀ s1 ∧ GF L e it l N (i + 1) s1.heap ∧ ∀ (s'' : Shared) (y : Value), (y = .none ∨ y = .bool true) → GF L e it l N (i + 1) s''.heap → kap (.send y) s''
def GEd (L e it : Addr) : GenEnd := fun n s₀ r s1 => ((r = .ok (.ret .none) ∨ r = .ok .next) ∧ n = 0 ∧ GSince [L, e, it] s₀ s1) ∨ ∃ x, r = .error x ∧ False
section
variable {prog : Program} {w : World} {A : Around} {env : Env} {xi xv : Str} {pi pv pt : Pos} {kt : Nat} {q1 q2 q3 q4 q5 : Pos} {kq : Nat} {L e it l : Addr} {N : Nat} {fs : List Frame}
abbrev bodyY (xi xv : Str) (q1 q2 q3 q4 q5 : Pos) (kq : Nat) : List Stmt := [.Expr (.Yield (some (.Tuple [.Name xi q1, .Name xv q2] kq q3)) q4) q5]
theorem gsince_step {fp : List Addr} {s₀ s : Shared} {h' : Heap} {tk : Nat} (x : GSince fp s₀ s) (hk : ∀ b o, b ∉ fp → s.heap.get? b = some o → h'.get? b = some o) : GSince fp s₀ { s with heap := h', toks := tk } := by
  obtain ⟨h1, tk1, e1, k1⟩ := x
  subst e1
  exact ⟨h', tk, rfl, fun b o hb e => hk b o hb (k1 b o hb e)⟩
theorem seg_walk (hh : (A.over (.forLoop (.Tuple [.Name xi pi, .Name xv pv] kt pt) (.ref e) (bodyY xi xv q1 q2 q3 q4 q5 kq) [] env) fs).handled = none) (hf : env.scope.kind = .function) (hco : env.scope.isCoroutine = false) (hint : interactive env = false) (hxi : env.kindOf xi = some .local) (hxv : env.kindOf xv = some .local) (hne : xi ≠ xv) (hL : env.locals = L)
    (hdi : (xi == ("__debug__" : Str)) = false) (hdv : (xv == ("__debug__" : Str)) = false)
    (hfs : splitAtGen fs = none) (hfg : fs.any Frame.guarded = false)
    (hend : ∀ s₀ s, GSince [L, e, it] s₀ s → Seg (model prog w) A (GEd L e it) (GYd L e it l N) 0 s₀ (.block [] env) ((model prog w).den (.block [] env)) fs s) :
    ∀ (d i : Nat) (s₀ s : Shared), N - i = d → i ≤ N → GF L e it l N i s.heap → GSince [L, e, it] s₀ s → s.heap.objs.size ≥ s₀.heap.objs.size → (∃ items : Array Value, s₀.heap.IsList l items ∧ s.heap.IsList l items) →
      Seg (model prog w) A (GEd L e it) (GYd L e it l N) d s₀ (.forLoop (.Tuple [.Name xi pi, .Name xv pv] kt pt) (.ref e) (bodyY xi xv q1 q2 q3 q4 q5 kq) [] env)
        ((model prog w).den (.forLoop (.Tuple [.Name xi pi, .Name xv pv] kt pt) (.ref e) (bodyY xi xv q1 q2 q3 q4 q5 kq) [] env)) fs s := by
  have hp : (env.scope.kind == .class || (env.scope.kind == .module && env.locals != env.globals)) = false := by rw [hf]; rfl
  intro d
  induction d with
  | zero =>
    intro i s₀ s hd hi hg hs hz hl
    refine seg_forLoop ?_
    obtain ⟨old, he⟩ := hg.en
    obtain ⟨items, hls, hsz⟩ := hg.ls
    have hx : items[i]? = none := by simp; omega
    refine wpAny_pyNext_enum_end (A := A.over _ _) hh he hg.li hls hx fun h' eb => ?_
    show Seg _ A _ _ _ _ _ _ _ _
    refine seg_again rfl ?_
    exact hend _ _ (gsince_step (tk := s.toks) hs fun b o hb q => eb b o (fun z => hb (by simp [z])) q)
  | succ d ih =>
    intro i s₀ s hd hi hg hs hz hl
    have hlt : i < N := by omega
    refine seg_forLoop ?_
    obtain ⟨old, he⟩ := hg.en
    obtain ⟨items, hls0, hls⟩ := hl
    have hsz : items.size = N := by
      obtain ⟨it2, h2, h3⟩ := hg.ls
      obtain ⟨o1, q1, c1, n1, d1⟩ := hls
      obtain ⟨o2, q2, c2, n2, d2⟩ := h2
      rw [q1] at q2; cases q2
      rw [d1] at d2
      injection d2 with d2
      rw [d2]; exact h3
    have hv : items[i]? = some items[i] := by simp [hsz, hlt]
    obtain ⟨m', hn'⟩ := hg.ns
    subst hL
    have heH : e < s.heap.objs.size := Heap.lt_size he
    have hLH : env.locals < s.heap.objs.size := hn'.lt
    obtain ⟨oi, hoi, _⟩ := id hg.li
    obtain ⟨ol, hol, _⟩ := id hls
    have hiH : it < s.heap.objs.size := Heap.lt_size hoi
    have hlH : l < s.heap.objs.size := Heap.lt_size hol
    generalize items[i] = v at hv
    refine wpAny_pyNext_enum_item he hg.li hls hv hg.eit fun h₁ heo hit₁ ht₁ hz₁ hk₁ => ?_
    refine wpAny_letOwnedTupleGo_enum heo fun h₂ he₂ hs₂ => ?_
    replace hs₂ : Heap.SameBut e h₁ h₂ := hs₂
    have ht₂ : h₂.IsTuple s.heap.objs.size #[.int i s.toks, v] := ⟨_, (hs₂.2 _ (Nat.ne_of_gt heH)).trans ht₁, rfl, _, rfl⟩
    have hz₂ : h₂.objs.size = s.heap.objs.size + 1 := hs₂.1.trans hz₁
    refine wpAny_hz (wpAny_assign_Tuple (A := A.over _ _) hh ht₂ rfl rfl fun h₃ hx₃ => ?_)
    replace hx₃ : Heap.ExtBut h₂.objs.size h₂ h₃ := hx₃
    have old₃ : ∀ b o, b < s.heap.objs.size → h₂.get? b = some o → h₃.get? b = some o := fun b o hb x => hx₃ b o (by rw [hz₂]; exact Nat.ne_of_lt (Nat.lt_succ_of_lt hb)) x
    have hn₃ : h₃.Ns env.locals m' := (hn'.at fun o x => hk₁ _ o (Ne.symm hg.eL) (Ne.symm hg.iL) x).sameBut hs₂ (Ne.symm hg.eL) |>.at fun o x => old₃ _ o hLH x
    show wpAny _ (A.over _ _) (do holding [v] (assign (.Name xi pi) env (.int i s.toks)); holding [] (assign (.Name xv pv) env v); pure ()) _ _ _
    refine wpAny_bind (wpAny_holding (wpAny_assign_Name (wpAny_storeName_local hxi hn₃ (fun h₄ hn₄ hs₄ => ?_) hp)))
    replace hs₄ : Heap.SameBut env.locals h₃ h₄ := hs₄
    refine wpAny_bind (wpAny_holding (wpAny_assign_Name (wpAny_storeName_local hxv hn₄ (fun h₅ hn₅ hs₅ => wpAny_pure fun hz₅ => ?_) hp)))
    replace hs₅ : Heap.SameBut env.locals h₄ h₅ := hs₅
    have up : ∀ b o, b ≠ env.locals → b < s.heap.objs.size → h₂.get? b = some o → h₅.get? b = some o := fun b o hbL hb x =>
      hs₅.extBut b o hbL (hs₄.extBut b o hbL (old₃ b o hb x))
    have up1 : ∀ b o, b ∉ [env.locals, e, it] → s.heap.get? b = some o → h₅.get? b = some o := fun b o hb q => by
      simp only [List.mem_cons, List.not_mem_nil, or_false, not_or] at hb
      exact up b o hb.1 (Heap.lt_size q) (hs₂.extBut b o hb.2.1 (hk₁ b o hb.2.1 hb.2.2 q))
    refine seg_execs_cons (seg_Expr_Yield hfs rfl hfg ?_ hco hint)
    refine wpAny_Tuple ?_
    show wpAny _ _ (spliced [(false, eval (.Name xi q1) env), (false, eval (.Name xv q2) env)]) _ _ _
    refine Calls.spliced_cons (wpAny_Name (wpAny_loadName_local hf hxi hn₅ (v := .int i s.toks) (by simp [hne]) ?_) hdi)
    refine Calls.spliced_cons (wpAny_Name (wpAny_loadName_local hf hxv hn₅ (v := v) (by simp) ?_) hdv)
    refine Calls.spliced_nil ⟨by show 2 ≤ sizeLine; decide, ?_⟩
    intro kap hkap
    have hk6 : ∀ b o, h₅.get? b = some o → (h₅.push { cls := .type "tuple", data := .seq #[.int i s.toks, v] }).get? b = some o := fun b o q => Heap.get?_push_of_some _ q
    have hg6 : GF env.locals e it l N (i + 1) (h₅.push { cls := .type "tuple", data := .seq #[.int i s.toks, v] }) := by
      refine ⟨⟨_, hn₅.at fun o q => hk6 _ o q⟩, ⟨v, ?_⟩, ?_, ⟨items, ?_, hsz⟩, hg.eit, hg.eL, hg.iL, hg.lL, hg.le, hg.lit⟩
      · have : ((i + 1 : Nat) : Int) = (i : Int) + 1 := by push_cast; rfl
        rw [this]; exact hk6 _ _ (up e _ hg.eL heH he₂)
      · exact ((hit₁.extBut hs₂.extBut (Ne.symm hg.eit)).at fun o x => up it o hg.iL hiH x).at fun o x => hk6 _ o x
      · exact hls.at fun o q => hk6 _ o (up1 l o (by simp [hg.lL, hg.le, hg.lit]) q)
    refine ⟨i, items, h₅.objs.size, v, s.toks, by omega, hls0, hv, rfl, ?_, Heap.get?_push_size _ rfl, ?_, hg6, fun s'' y hy g'' => hkap y s'' ?_⟩
    · show s₀.heap.objs.size ≤ h₅.objs.size
      have z5 : h₂.objs.size ≤ h₅.objs.size := hz₅
      omega
    · obtain ⟨h0, t0, e0, k0⟩ := hs
      subst e0
      exact ⟨_, _, rfl, fun b o hb q => hk6 b o (up1 b o hb (k0 b o hb q))⟩
    · have z : Seg (model prog w) A (GEd env.locals e it) (GYd env.locals e it l N) d s'' (.forLoop (.Tuple [.Name xi pi, .Name xv pv] kt pt) (.ref e) (bodyY xi xv q1 q2 q3 q4 q5 kq) [] env) (.pure (.again (.forLoop (.Tuple [.Name xi pi, .Name xv pv] kt pt) (.ref e) (bodyY xi xv q1 q2 q3 q4 q5 kq) [] env))) fs s'' := ?_
      · rcases hy with q | q
        · subst q; exact z
        · subst q; exact z
      refine seg_again rfl ?_
      obtain ⟨it2, h2, h3⟩ := g''.ls
      exact ih (i + 1) s'' s'' (by omega) hlt g'' ⟨s''.heap, s''.toks, rfl, fun _ _ _ q => q⟩ (Nat.le_refl _) ⟨it2, h2, h2⟩
end
end VI
-- VGi
set_option Elab.async false
set_option linter.all false
set_option maxRecDepth 100000
set_option maxHeartbeats 2000000
namespace VI
open PySem PySem.Spec PyProof.Rows
open Sem (wp)
section
variable {prog : Program} {w : World} {A : Around} {env : Env} {xi xv sn : Str} {attr : Str} {pi pv pt : Pos} {kt : Nat} {q1 q2 q3 q4 q5 p1 p2 p3 p4 p5 : Pos} {kq : Nat} {a l : Addr} {N : Nat} {s : Shared}
abbrev bodyW (xi xv sn attr : Str) (pi pv pt : Pos) (kt : Nat) (p1 p2 p3 p4 p5 q1 q2 q3 q4 q5 : Pos) (kq : Nat) : List Stmt :=
  [.For (.Tuple [.Name xi pi, .Name xv pv] kt pt) (.Call (.Name "enumerate" p1) [.Attribute (.Name sn p2) attr p3] [] p4) (bodyY xi xv q1 q2 q3 q4 q5 kq) [] p5]
theorem seg_gen {m mg mb : Str → Option Value} {items : Array Value} (hh : A.handled = none) (hf : env.scope.kind = .function) (hco : env.scope.isCoroutine = false) (hint : interactive env = false) (hxi : env.kindOf xi = some .local) (hxv : env.kindOf xv = some .local) (hne : xi ≠ xv)
    (hdi : (xi == ("__debug__" : Str)) = false) (hdv : (xv == ("__debug__" : Str)) = false) (hsn : env.kindOf sn = some .local) (hds : (sn == ("__debug__" : Str)) = false)
    (hxe : env.kindOf "enumerate" = some .globalImplicit) (hglob : s.heap.Ns env.globals mg) (hmg : mg "enumerate" = none) (hblt : s.heap.Ns env.builtins mb) (hmb : mb "enumerate" = some (.type "enumerate"))
    (hns : s.heap.Ns env.locals m) (hself : m sn = some (.ref a))
    (hget : ∀ (A' : Around) (Q : Value → Shared → Prop) (E : Value → Shared → Prop), Q (.ref l) { s with toks := s.toks + 1 } → wpAny (model prog w) A' (getAttr (.ref a) attr true) Q E s)
    (hl : s.heap.IsList l items) (hsz : items.size = N) (hlL : l ≠ env.locals)
    (hab : attributeBase (.Name sn p2) attr env (eval (.Name sn p2) env) = eval (.Name sn p2) env) :
    Seg (model prog w) A (GEd env.locals (s.heap.objs.size + 1) s.heap.objs.size) (GYd env.locals (s.heap.objs.size + 1) s.heap.objs.size l N) N s (.func (bodyW xi xv sn attr pi pv pt kt p1 p2 p3 p4 p5 q1 q2 q3 q4 q5 kq) env)
      ((model prog w).den (.func (bodyW xi xv sn attr pi pv pt kt p1 p2 p3 p4 p5 q1 q2 q3 q4 q5 kq) env)) [] s := by
  have hlH : l < s.heap.objs.size := by obtain ⟨o, q, _⟩ := hl; exact Heap.lt_size q
  have hLH : env.locals < s.heap.objs.size := hns.lt
  refine seg_func (seg_execs_cons (seg_ForS ?_ (by intro _; rfl)))
  refine Call_ (Calls.Name_function_global hf hxe (Calls.loadGlobal_builtin hglob hmg hblt hmb ?_) (by decide))
  refine PyProof.Rows.callWith_type1 ?_
  show wpAny _ _ (spliced [(false, eval (.Attribute (.Name sn p2) attr p3) env)]) _ _ _
  refine Calls.spliced_cons (L2.attr_of hab (wpAny_Name (wpAny_loadName_local hf hsn hns hself (hget _ _ _ ?_)) hds))
  refine Calls.spliced_nil ?_
  refine call_enumerate_list (s := { s with toks := s.toks + 1 }) hl fun h' he hit hz' hk => wpAny_pyIter_enum he fun p => ?_
  have hk' : ∀ b o, s.heap.get? b = some o → h'.get? b = some o := hk
  refine seg_walk (i := 0) ?_ hf hco hint hxi hxv hne rfl hdi hdv rfl rfl (fun s₀ s1 x => ?_) N s _ (Nat.sub_zero _) (Nat.zero_le _) ⟨⟨m, hns.at fun o q => hk' _ o q⟩, ⟨_, he⟩, hit, ⟨items, hl.at fun o q => hk' _ o q, hsz⟩, Nat.succ_ne_self _, ?_, ?_, hlL, ?_, ?_⟩ ⟨h', s.toks + 1, rfl, fun b o _ q => hk' b o q⟩ ?_ ⟨items, hl, hl.at fun o q => hk' _ o q⟩
  · exact hh
  · refine seg_leaf (.ok .next) ?_
    show Seg _ _ _ _ _ _ _ ((execs [] env).wrap _ _ _ _) _ _
    refine seg_execs_nil ?_
    exact seg_end (.ok (.ret .none)) (.inl ⟨.inl rfl, rfl, x⟩)
  · exact Nat.ne_of_gt (Nat.lt_succ_of_lt hLH)
  · exact Nat.ne_of_gt hLH
  · exact Nat.ne_of_lt (Nat.lt_succ_of_lt hlH)
  · exact Nat.ne_of_lt hlH
  · show s.heap.objs.size ≤ h'.objs.size
    have z : h'.objs.size = s.heap.objs.size + 2 := hz'
    omega
end
end VI
-- VGe
set_option Elab.async false
set_option linter.all false
set_option maxRecDepth 100000
set_option maxHeartbeats 2000000
namespace VI
open PySem PySem.Spec PyProof.Rows L2
open Sem (wp)
/-! ### a for loop over an iterator whose state lies among the generators -/
theorem wpAny_doze2 {α : Type} {M : Model} {A : Around} {s : Shared} {t : Sem α} {Q : α → Shared → Prop} {E : Value → Shared → Prop} (h : wpAny M A t Q E (doze s)) :
    wpAny M A t (fun a s' => ∃ s'', s' = wake (slp s) s'' ∧ SlpOk (slp s) s'' ∧ Q a s'') (fun e s' => ∃ s'', s' = wake (slp s) s'' ∧ SlpOk (slp s) s'' ∧ ngS (slp s) s'' ∧ E e s'') s := fun Γ p hΓ => by
  have := wp_frame (Y := slp s) t _ _ p _ (doze_ok s) (doze_ng s) (h Γ p hΓ)
  rw [doze_wake] at this
  exact Sem.wp_mono M Γ t (fun a _ s' ⟨s'', e, k1, _, q⟩ => ⟨s'', e, k1, q⟩) (fun a _ s' ⟨s'', e, k1, k2, q⟩ => ⟨s'', e, k1, k2, q⟩) p s this
theorem inv_gens {X : Cx} {pins : List (Addr × Obj)} {σ : L2.St} {H : Hp} {s : Shared} {g' : Array GenState} (I : Inv X pins σ H s) (h : AllBare g') : Inv X pins σ H { s with gens := g' } :=
  ⟨I.ok, I.os, h, I.base, I.loc, I.cell, I.free, I.freeC, I.pin, I.hok, I.len⟩
theorem inv_doze {X : Cx} {pins : List (Addr × Obj)} {σ : L2.St} {H : Hp} {s : Shared} (I : Inv X pins σ H s) : Inv X pins σ H (doze s) := inv_gens I (bare_doze I.bare)
theorem inv_wake {X : Cx} {pins : List (Addr × Obj)} {σ : L2.St} {H : Hp} {s s'' : Shared} (hb : AllBare s.gens) (I : Inv X pins σ H s'') : Inv X pins σ H (wake (slp s) s'') := inv_gens I (bare_wake hb I.bare)
/-- an exception's word stays true when the sleepers are put in -/
def XeWake (X : Cx) : Prop := ∀ (Y : Slp) (e : Value) (s : Shared), SlpOk Y s → ngS Y s → (∀ i y, Y i = some y → y.bare = true) → X.xe e s → X.xe e (wake Y s)
theorem bare_wakeY {Y : Slp} {s : Shared} (hY : ∀ i y, Y i = some y → y.bare = true) (k : AllBare s.gens) : AllBare (wake Y s).gens := fun y hy => by
  simp only [wake] at hy
  obtain ⟨i, hi, e⟩ := Array.mem_iff_getElem.mp hy
  simp only [Array.getElem_mapIdx] at e
  cases q : Y i with
  | none => rw [q] at e; rw [← e]; exact k _ (Array.getElem_mem _)
  | some z => rw [q] at e; rw [← e]; exact hY i z q
theorem bare_slp {s : Shared} (h : AllBare s.gens) : ∀ i y, slp s i = some y → y.bare = true := fun i y q => by
  unfold slp at q
  split at q
  · rename_i q2
    cases q
    exact h _ (Array.mem_of_getElem? q2)
  · cases q
theorem xeWake_leave {X : Cx} {A : Around} {env : Env} {P : Program} {w : World} {outer : List Env} {H : Hp} {s : Shared} {E : XK}
    (hx : X.xe = fun e s' => wpAny (model P w) A (leaving env e) (fun _ s'' => CX P w outer H s E e s'') (fun e' s'' => CX P w outer H s E e' s'') s') : XeWake X := fun Y e s1 k1 k2 k3 h => by
  rw [hx] at h ⊢
  have cw : ∀ u s2, CX P w outer H s E u s2 → CX P w outer H s E u (wake Y s2) := fun u s2 ⟨a, B, H', cls, d, h1, h2, h3, h4, h5, h6, h7, h8⟩ => ⟨a, B, H', cls, d, h1, h2, h3, h4, h5, h6, bare_wakeY k3 h7, h8⟩
  intro Γ p hΓ
  have := wp_frame (Y := Y) (leaving env e) _ _ p _ k1 k2 (h Γ p hΓ)
  refine Sem.wp_mono _ Γ _ (fun a _ s' ⟨s'', e, _, _, q⟩ => ?_) (fun a _ s' ⟨s'', e, _, _, q⟩ => ?_) p _ this
  · subst e; exact cw _ _ q
  · subst e; exact cw _ _ q
structure TurnG (X : Cx) (tg : Expr) (J : It) (it : Addr) (g : Nat) (tn : Nat → List Addr → Shared → Prop) : Prop where
  obj : ∀ i fp s, tn (i + 1) fp s → ∀ b ∈ fp, ∃ o, s.heap.get? b = some o ∧ ∀ v, o.data ≠ .cell v
  slept : ∀ i fp s, tn (i + 1) fp s → ∃ st, s.gens[g]? = some st ∧ isSusp st = true
  keep : ∀ i fp s s', tn (i + 1) fp s → (∀ b ∈ fp, ∀ o, s.heap.get? b = some o → s'.heap.get? b = some o) → s'.gens[g]? = s.gens[g]? → tn (i + 1) fp s'
  item : ∀ (i : Nat) (fp : List Addr) (pins : List (Addr × Obj)) (s : Shared) (σ : L2.St) (H : Hp) (E : Value → Shared → Prop), Inv X pins σ H s → (∀ b ∈ fp, FpOk X pins H b) → tn i fp s → J.go i H →
    wpAny (model X.prog X.w) X.A (pyNext (.ref it)) (fun r s1 => ∃ u, r = some u ∧
      wpAny (model X.prog X.w) X.A (letOwnedTupleGo tg (.ref it) u) (fun _ s2 => ∃ x H' fp', Inv X pins σ H' s2 ∧ RelV x u ∧ J.yld i H x H' ∧ tn (i + 1) fp' s2 ∧ ∀ b ∈ fp', FpOk X pins H' b) E s1) E s
  done : ∀ (i : Nat) (fp : List Addr) (pins : List (Addr × Obj)) (s : Shared) (σ : L2.St) (H : Hp) (E : Value → Shared → Prop), Inv X pins σ H s → (∀ b ∈ fp, FpOk X pins H b) → tn i fp s → J.stop i H →
    wpAny (model X.prog X.w) X.A (pyNext (.ref it)) (fun r s1 => r = none ∧ Inv X pins σ H s1) E s
def PIEG (X : Cx) (pins : List (Addr × Obj)) (σ : L2.St) (tg : Expr) (R : It → Hp → Prop) (itv : Value) (s2 : Shared) : Prop :=
  ∃ (it : Addr) (g : Nat) (fp : List Addr) (tn : Nat → List Addr → Shared → Prop) (J : It) (H' : Hp), itv = .ref it ∧ Inv X pins σ H' s2 ∧ TurnG X tg J it g tn ∧ tn 0 fp s2 ∧ (∀ b ∈ fp, FpOk X pins H' b) ∧ R J H'
structure PIG (X : Cx) (tg iter : Expr) (wi : TI) : Prop where
  run : ∀ (pins : List (Addr × Obj)) (s : Shared) (σ : L2.St) (H : Hp) (R : It → Hp → Prop), Inv X pins σ H s → wi σ H R →
    wpAny (model X.prog X.w) X.A (eval iter X.env) (fun v s1 => wpAny (model X.prog X.w) X.A (pyIter v) (PIEG X pins σ tg R) X.xe s1) X.xe s
theorem xe_woken {X : Cx} (hw : XeWake X) {s : Shared} (hb : AllBare s.gens) {e : Value} {s' : Shared} (h : ∃ s'', s' = wake (slp s) s'' ∧ SlpOk (slp s) s'' ∧ ngS (slp s) s'' ∧ X.xe e s'') : X.xe e s' := by
  obtain ⟨s'', q, k1, k2, h⟩ := h
  subst q
  exact hw _ _ _ k1 k2 (bare_slp hb) h
theorem ps_forG {X : Cx} {tg iter : Expr} {body : List Stmt} {wi : TI} {g : TG} {tb : TS} {pos : Pos} (hp : PassesOwn (model X.prog X.w) X.A X.env X.xe) (hw : XeWake X) (hi : PIG X tg iter wi) (hg : PG X tg g) (hb : PSs X body tb)
    (hs : ∀ x, foldedSetIterable iter X.env x = pure x := by intro _; rfl) : PS X (.For tg iter body [] pos) (tFor wi g tb) := by
  refine ⟨fun pins s σ H D I h => ?_⟩
  refine wpAny_For (thn (hi.run pins s σ H _ I h) fun v s1 h1 => thn h1 fun itv s2 h2 => ?_) hs
  obtain ⟨it, gi, fp, tn, J, H2, e, I2, T, st2, f2, W, ⟨m0, w0⟩, turn⟩ := h2
  subst e
  refine codeAny_forLoop_any (fun n s' => ∃ i fp σ' H', Inv X pins σ' H' s' ∧ tn i fp s' ∧ (∀ b ∈ fp, FpOk X pins H' b) ∧ W i n σ' H') ?_ m0 ⟨0, fp, σ, H2, I2, st2, f2, w0⟩
  rintro n s3 ⟨i, fp3, σ3, H3, I3, st3, fr3, w3⟩
  rcases turn i n σ3 H3 w3 with ⟨stop, qn⟩ | ⟨go, N, hN, step⟩
  · refine wpAny_passesOwn hp (thn (T.done i fp3 pins s3 σ3 H3 X.xe I3 fr3 st3 stop) fun r s4 ⟨hr, I4⟩ => ?_)
    subst hr
    exact wpAny_execs_nil ⟨σ3, H3, I4, qn⟩
  · refine wpAny_passesOwn hp (thn (T.item i fp3 pins s3 σ3 H3 X.xe I3 fr3 st3 go) fun r s4 ⟨u, hr, h4⟩ => ?_)
    subst hr
    refine wpAny_passesOwn hp (thn h4 fun _ s5 ⟨x, H5, fp5, I5, r5, y5, st5, fr5⟩ => ?_)
    have I5' := I5.pinned fr5 (T.obj _ _ _ st5)
    obtain ⟨gst, hgst, hsus⟩ := T.slept _ _ _ st5
    refine wpAny_passesOwn hp (wpAny_mono (wpAny_doze2 (hg.run _ (doze s5) σ3 H5 x u _ (inv_doze I5') r5 (step x H5 y5))) (fun _ s6 ⟨t6, e6, k6, σ6, H6, I6, q6⟩ => ?_) fun _ _ z => xe_woken hw I5.bare z)
    have g6 : s6.gens[gi]? = some gst := by rw [e6]; exact wake_slp hgst hsus k6
    have I6' : Inv X (pins ++ pinsAt fp5 s5.heap) σ6 H6 s6 := by rw [e6]; exact inv_wake I5.bare I6
    refine wpAny_passesOwn hp (wpAny_mono (wpAny_doze2 (hb.run _ (doze s6) σ6 H6 _ (inv_doze I6') q6)) (fun f s7 ⟨t7, e7, k7, q7⟩ => ?_) fun _ _ z => xe_woken hw I6'.bare z)
    have g7 : s7.gens[gi]? = some gst := by rw [e7]; exact wake_slp g6 hsus k7
    have again : ∀ {σ7 : L2.St} {H7 : Hp}, Inv X (pins ++ pinsAt fp5 s5.heap) σ7 H7 s7 → N σ7 H7 → ∃ m, m < n ∧ ∃ i fp σ' H', Inv X pins σ' H' s7 ∧ tn i fp s7 ∧ (∀ b ∈ fp, FpOk X pins H' b) ∧ W i m σ' H' := fun {σ7 H7} I7 n7 => by
      obtain ⟨m', hm, w7⟩ := hN σ7 H7 n7
      refine ⟨m', hm, i + 1, fp5, σ7, H7, I7.unpinned, T.keep _ _ _ _ st5 (fun b hb o e => (I7.pin (b, o) (List.mem_append_right _ (List.mem_append_right _ (mem_pinsAt hb e)))).1) (g7.trans hgst.symm), fun b hb => ?_, w7⟩
      obtain ⟨o, e, d⟩ := T.obj _ _ _ st5 b hb
      exact ⟨(I7.pin (b, o) (List.mem_append_right _ (List.mem_append_right _ (mem_pinsAt hb e)))).2.1, (fr5 b hb).2⟩
    subst e7
    cases f with
    | next => obtain ⟨σ7, H7, I7, n7⟩ := q7; exact again (inv_wake I6'.bare I7) n7
    | cont => obtain ⟨σ7, H7, I7, n7⟩ := q7; exact again (inv_wake I6'.bare I7) n7
    | brk => obtain ⟨σ7, H7, I7, q7⟩ := q7; exact ⟨σ7, H7, (inv_wake I6'.bare I7).unpinned, q7⟩
    | ret v => obtain ⟨x7, σ7, H7, I7, r7, q7⟩ := q7; exact ⟨x7, σ7, H7, (inv_wake I6'.bare I7).unpinned, r7, q7⟩
end VI
-- VGj
set_option Elab.async false
set_option linter.all false
set_option maxRecDepth 100000
set_option maxHeartbeats 2000000
namespace VI
open PySem PySem.Spec PyProof.Rows L2
open Sem (wp)
structure WEnv (env : Env) (xi xv sn attr : Str) (p2 : Pos) : Prop where
  hf : env.scope.kind = .function
  hco : env.scope.isCoroutine = false
  hint : interactive env = false
  hxi : env.kindOf xi = some .local
  hxv : env.kindOf xv = some .local
  hne : xi ≠ xv
  hdi : (xi == ("__debug__" : Str)) = false
  hdv : (xv == ("__debug__" : Str)) = false
  hsn : env.kindOf sn = some .local
  hds : (sn == ("__debug__" : Str)) = false
  hxe : env.kindOf "enumerate" = some .globalImplicit
  hab : attributeBase (.Name sn p2) attr env (eval (.Name sn p2) env) = eval (.Name sn p2) env
  glob : env.globals = mainGlobals
  blt : env.builtins = builtinsNs
/-- the list is there -/
def Gw (K : PySem.W.Frag) (a l C : Addr) (attr : Str) (N : Nat) (H : Hp) : Prop := (∃ dx fs, H a = some (.ins C dx fs) ∧ fs.lookup attr = some (.ref l)) ∧ ∃ xs : List V, SqL K H l xs ∧ xs.length = N
def Iw (K : PySem.W.Frag) (a l C : Addr) (attr : Str) (N : Nat) : It := ⟨fun i H => Gw K a l C attr N H ∧ i < N, (Ite K l).yld, fun i H => Gw K a l C attr N H ∧ i = N⟩
/-- the own objects, without the list -/
structure GFo (L e it l : Addr) (i : Nat) (h : Heap) : Prop where
  ns : ∃ m, h.Ns L m
  en : ∃ old, IsEnum h e it ((i : Nat) : Int) old
  li : h.IsListIter it l i
  eit : e ≠ it
  eL : e ≠ L
  iL : it ≠ L
theorem GF.o {L e it l : Addr} {N i : Nat} {h : Heap} (g : GF L e it l N i h) : GFo L e it l i h := ⟨g.ns, g.en, g.li, g.eit, g.eL, g.iL⟩
theorem list_ne {h : Heap} {l b : Addr} {items : Array Value} {o : Obj} (hl : h.IsList l items) (hb : h.get? b = some o) (hd : ∀ its n, o.data ≠ .seq its n) : l ≠ b := fun z => by
  obtain ⟨o1, q1, _, n, d⟩ := hl
  rw [z, hb] at q1
  cases q1
  exact hd _ _ d
theorem GFo.to {L e it l : Addr} {N i : Nat} {h : Heap} {items : Array Value} (g : GFo L e it l i h) (hl : h.IsList l items) (hz : items.size = N) : GF L e it l N i h := by
  obtain ⟨old, he⟩ := g.en
  obtain ⟨oi, hi, _, hid⟩ := id g.li
  obtain ⟨m, on, es, ep, hn, hnd, _⟩ := id g.ns
  exact ⟨g.ns, g.en, g.li, ⟨items, hl, hz⟩, g.eit, g.eL, g.iL, list_ne hl hn (by rw [hnd]; intro _ _ q; cases q), list_ne hl he (by intro _ _ q; cases q), list_ne hl hi (by rw [hid]; intro _ _ q; cases q)⟩
theorem GFo.kept {L e it l : Addr} {i : Nat} {h h' : Heap} (g : GFo L e it l i h) (k : ∀ b ∈ [L, e, it], ∀ o, h.get? b = some o → h'.get? b = some o) : GFo L e it l i h' := by
  obtain ⟨m, hn⟩ := g.ns
  obtain ⟨old, he⟩ := g.en
  exact ⟨⟨m, hn.at fun o q => k _ (by simp) o q⟩, ⟨old, k _ (by simp) _ he⟩, g.li.at fun o q => k _ (by simp) o q, g.eit, g.eL, g.iL⟩
section
variable {X : Cx} {env : Env} {xi xv sn attr : Str} {pi pv pt : Pos} {kt : Nat} {q1 q2 q3 q4 q5 p1 p2 p3 p4 p5 : Pos} {kq : Nat} {a l C G : Addr} {g N : Nat}
def tnW (X : Cx) (env : Env) (sn : Str) (body : List Stmt) (a l G : Addr) (g N : Nat) : Nat → List Addr → Shared → Prop
  | 0 => fun fp s => fp = [G, env.locals] ∧ s.heap.IsGen G g ∧ s.gens[g]? = some (.fresh (.func body env)) ∧ ∃ m, s.heap.Ns env.locals m ∧ m sn = some (.ref a)
  | i + 1 => fun fp s => ∃ e it gs, fp = [G, env.locals, e, it] ∧ s.heap.IsGen G g ∧ s.gens[g]? = some gs ∧ isSusp gs = true ∧ GFo env.locals e it l (i + 1) s.heap ∧
    ∀ s'' : Shared, GF env.locals e it l N (i + 1) s''.heap → gs.Goes (model X.prog X.w) X.A.in1 (GEd env.locals e it) (GYd env.locals e it l N) (N - (i + 1)) (.send .none) s''
theorem goes_susp {M : Model} {A : Around} {R : GenEnd} {Y : Protocol} {n : Nat} {gs : GenState} {s2 : Shared} (h2 : gs.Goes M A R Y n (.send (.bool true)) s2) : isSusp gs = true := by
  cases gs with
  | fresh c => obtain ⟨z, _⟩ := h2; cases z
  | suspended _ _ _ _ _ _ => rfl
  | running => exact h2.elim
  | finished => exact h2.elim
theorem inv_set {pins : List (Addr × Obj)} {σ : L2.St} {H : Hp} {s : Shared} {g : Nat} {x : GenState} (I : Inv X pins σ H s) (hx : x.bare = true) : Inv X pins σ H (s.setGen g x) := inv_gens I (allBare_setGen I.bare hx)
theorem gen_ne {h : Heap} {G b : Addr} {g : Nat} {o : Obj} (hg : h.IsGen G g) (hb : h.get? b = some o) (hc : o.cls ≠ .type "generator") : G ≠ b := fun z => by
  obtain ⟨o1, _, _, q1, c, _⟩ := hg
  rw [z, hb] at q1
  cases q1
  exact hc c
/-- what a turn meets, at its begin -/
theorem turn_goes {pins : List (Addr × Obj)} {σ : L2.St} {H : Hp} {s : Shared} {fp : List Addr} {i : Nat} (we : WEnv env xi xv sn attr p2) (hmg : X.mg "enumerate" = none) (hc : Cls X.K C) (hna : NoAttr X.K C attr) (hcalm : X.calm = true)
    (I : Inv X pins σ H s) (hf : ∀ b ∈ fp, FpOk X pins H b) (st : tnW X env sn (bodyW xi xv sn attr pi pv pt kt p1 p2 p3 p4 p5 q1 q2 q3 q4 q5 kq) a l G g N i fp s) (gw : Gw X.K a l C attr N H) :
    ∃ e it gs, s.heap.IsGen G g ∧ s.gens[g]? = some gs ∧ (∀ b ∈ [G, env.locals, e, it], FpOk X pins H b) ∧ G ∉ [env.locals, e, it] ∧
      gs.Goes (model X.prog X.w) X.A.in1 (GEd env.locals e it) (GYd env.locals e it l N) (N - i) (.send .none) (s.setGen g .running) := by
  obtain ⟨⟨dx, fs, ea, hat⟩, xs, hq, hN⟩ := gw
  obtain ⟨its, rv, pl, hz⟩ := I.list hq
  have hsz : its.toArray.size = N := by rw [List.size_toArray, ← rv.length, hN]
  have hil : s.heap.IsList l its.toArray := pl.isList
  cases i with
  | zero =>
    obtain ⟨e1, hg, hgs, m, hn, hself⟩ := st
    subst e1
    obtain ⟨mb, b1, b2⟩ := I.mod.blt
    obtain ⟨mA, O, r, _, _, _⟩ := ins_get I.hok ea
    obtain ⟨u, hu, ru⟩ := RelO.some_of (v := .ref l) (o := mA attr) (by rw [← hat]; exact r attr)
    cases ru
    obtain ⟨on, es, ep, hno, hnd, hnr⟩ := id hn
    refine ⟨s.heap.objs.size + 1, s.heap.objs.size, _, hg, hgs, fun b hb => ?_, ?_, rfl, ?_⟩
    · simp only [List.mem_cons, List.not_mem_nil, or_false] at hb
      rcases hb with z | z | z | z
      · exact hf b (by simp [z])
      · exact hf b (by simp [z])
      · exact I.fpOk (by rw [z]; exact Nat.le_succ _) (I.hok.fresh (by rw [z]; exact Nat.le_succ _))
      · exact I.fpOk (by rw [z]; exact Nat.le_refl _) (I.hok.fresh (by rw [z]; exact Nat.le_refl _))
    · obtain ⟨og, _, _, hgo, hgc, hgd, _⟩ := hg
      have hlt := Heap.lt_size hgo
      simp only [List.mem_cons, List.not_mem_nil, or_false, not_or]
      refine ⟨fun z => ?_, Nat.ne_of_lt (Nat.lt_succ_of_lt hlt), Nat.ne_of_lt hlt⟩
      rw [z, hno] at hgo
      cases hgo
      rw [hnd] at hgd
      cases hgd
    · refine seg_gen (s := s.setGen g .running) (m := m) (mg := X.mg) (mb := mb) (items := its.toArray) (a := a) (I.ok.hd hcalm) we.hf we.hco we.hint we.hxi we.hxv we.hne we.hdi we.hdv we.hsn we.hds we.hxe ?_ hmg ?_ ?_ hn hself (fun A' Q E hQ => ?_) hil hsz ?_ we.hab
      · rw [we.glob]; exact I.mod.glob.keeps I.bk
      · rw [we.blt]; exact b1.keeps I.bk
      · exact b2 _ (by decide)
      · exact get_map (s := s.setGen g .running) I.kIn O (hc.get attr) hc.hd hna hu (handed_of (v := .ref l) rfl) hQ
      · exact list_ne hil hno (by rw [hnd]; intro _ _ q; cases q)
  | succ i =>
    obtain ⟨e, it, gs, e1, hg, hgs, _, fo, goes⟩ := st
    subst e1
    refine ⟨e, it, gs, hg, hgs, hf, ?_, goes _ (fo.to hil hsz)⟩
    obtain ⟨m, on, es, ep, hno, hnd, hnr⟩ := fo.ns
    obtain ⟨old, he⟩ := fo.en
    obtain ⟨oi, hi, hic, _⟩ := id fo.li
    obtain ⟨og, _, _, hgo, hgc, hgd, _⟩ := id hg
    simp only [List.mem_cons, List.not_mem_nil, or_false, not_or]
    refine ⟨fun z => ?_, gen_ne hg he (by intro q; injection q with q; exact absurd q (by decide)), gen_ne hg hi (by rw [hic]; intro q; injection q with q; exact absurd q (by decide))⟩
    rw [z, hno] at hgo
    cases hgo
    rw [hnd] at hgd
    cases hgd
theorem turn_walk (we : WEnv env xi xv sn attr p2) (hmg : X.mg "enumerate" = none) (hc : Cls X.K C) (hna : NoAttr X.K C attr) (hcalm : X.calm = true) (hroom : X.A.depth < recursionLimit) {tg : Expr} :
    TurnG X tg (Iw X.K a l C attr N) G g (tnW X env sn (bodyW xi xv sn attr pi pv pt kt p1 p2 p3 p4 p5 q1 q2 q3 q4 q5 kq) a l G g N) where
  obj := fun i fp s st b hb => by
    obtain ⟨e, it, gs, e1, ⟨og, _, _, hgo, _, hgd, _⟩, hgs, _, fo, goes⟩ := st
    subst e1
    obtain ⟨m, on, es, ep, hno, hnd, hnr⟩ := fo.ns
    obtain ⟨old, he⟩ := fo.en
    obtain ⟨oi, hi, _, hid⟩ := fo.li
    simp only [List.mem_cons, List.not_mem_nil, or_false] at hb
    rcases hb with z | z | z | z
    · rw [z]; exact ⟨og, hgo, fun v q => by rw [hgd] at q; cases q⟩
    · rw [z]; exact ⟨on, hno, fun v q => by rw [hnd] at q; cases q⟩
    · rw [z]; exact ⟨_, he, fun v q => nomatch q⟩
    · rw [z]; exact ⟨oi, hi, fun v q => by rw [hid] at q; cases q⟩
  slept := fun i fp s st => by
    obtain ⟨e, it, gs, _, _, hgs, hsus, _⟩ := st
    exact ⟨gs, hgs, hsus⟩
  keep := fun i fp s s' st k kg => by
    obtain ⟨e, it, gs, e1, ⟨og, nm, qn, hgo, hgr⟩, hgs, hsus, fo, goes⟩ := st
    subst e1
    exact ⟨e, it, gs, rfl, ⟨og, nm, qn, k _ (by simp) _ hgo, hgr⟩, by rw [kg]; exact hgs, hsus, fo.kept fun b hb o q => k b (List.mem_cons_of_mem _ hb) o q, goes⟩
  item := by
    intro i fp pins s σ H E I hf st ⟨gw, hlt⟩
    obtain ⟨e, it, gs, hg, hgs, hf3, hG, goes⟩ := turn_goes we hmg hc hna hcalm I hf st gw
    refine next_genG (I.ok.hd hcalm) I.nolimit hroom hg hgs goes (fun v s1 gs' hbare hv => ?_) (fun s1 hp h' hk => ?_) fun x s1 hx => hx.elim
    · obtain ⟨j, items, T, x, tk, hj, hls, hx, ev, hT, hTo, ⟨h1, tk1, es1, k1⟩, gf, hk⟩ := hv
      have ej : j = i := by omega
      subst ej
      obtain ⟨n, hn⟩ : ∃ n, N - j = n + 1 := ⟨N - j - 1, by omega⟩
      have hn2 : N - (j + 1) = n := by omega
      rw [hn] at hk
      have hk2 : ∀ (s'' : Shared) (y : Value), (y = .none ∨ y = .bool true) → GF env.locals e it l N (j + 1) s''.heap → gs'.Goes (model X.prog X.w) X.A.in1 (GEd env.locals e it) (GYd env.locals e it l N) n (.send y) s'' := hk
      obtain ⟨xs, hq, hN⟩ := gw.2
      obtain ⟨its, rv, pl, hz⟩ := I.list hq
      have hils : its.toArray = items := by
        obtain ⟨o1, q1, _, n1, d1⟩ := pl.isList
        obtain ⟨o2, q2, _, n2, d2⟩ := hls
        have q2' : s.heap.get? l = some o2 := q2
        rw [q1] at q2'; cases q2'
        rw [d1] at d2; injection d2
      subst hils
      have hxu : its[j]? = some x := by simpa using hx
      have hjl : j < xs.length := by omega
      obtain ⟨u, hu, ru⟩ := rv.get (i := j) (x := xs[j]) (by simp [hjl])
      rw [hxu] at hu
      cases hu
      subst ev
      subst es1
      have hT' : s.heap.objs.size ≤ T := hT
      have hHT : H T = none := I.hok.fresh hT'
      have new : ObjOk X.prog X.w (upd H T (.tup [.int (j : Nat), xs[j]])) h1 T (.tup [.int (j : Nat), xs[j]]) :=
        ⟨by show 2 ≤ sizeLine; decide, [.int j tk, x], .cons ⟨_, rfl⟩ (.cons ru .nil), ⟨_, hTo, rfl, _, rfl⟩⟩
      have I1 : Inv X pins σ (upd H T (.tup [.int (j : Nat), xs[j]])) { (s.setGen g .running) with heap := h1, toks := tk1 } :=
        (inv_set (g := g) (x := .running) I rfl).turnedNew (ch := [env.locals, e, it]) k1 (fun b hb => hf3 b (List.mem_cons_of_mem _ hb)) hT' new
      have I2 := inv_set (g := g) I1 hbare
      have hg1 : h1.IsGen G g := by
        obtain ⟨og, nm, qn, hgo, hgr⟩ := hg
        exact ⟨og, nm, qn, k1 G og hG hgo, hgr⟩
      have hgl : g < s.gens.size := (Array.getElem?_eq_some_iff.mp hgs).1
      obtain ⟨og, nm, qn, hgo, hgc, hgd, _⟩ := id hg1
      refine ⟨_, rfl, go_of (o := og) (n := "generator") hgo hgc hgd (by decide) ⟨.ref T, _, [G, env.locals, e, it], I2, rfl, ⟨T, xs[j], rfl, hHT, rfl, fun ys hy => ?_⟩, ⟨e, it, gs', rfl, hg1, ?_, goes_susp (hk2 _ (.bool true) (.inr rfl) gf), gf.o, fun s'' g'' => ?_⟩, fun b hb => ?_⟩⟩
      · rw [I.list_inj hy hq]; simp [hjl]
      · exact setGen_at (by show g < (s.gens.setIfInBounds g .running).size; simpa using hgl)
      · rw [hn2]; exact hk2 s'' .none (.inl rfl) g''
      · obtain ⟨f0, f1⟩ := hf3 b hb
        refine ⟨?_, f1⟩
        rw [upd_ne (fun z => ?_)]
        · exact f0
        · subst z
          obtain ⟨m1, on, es, ep, hno, hnd, hnr⟩ := gf.ns
          obtain ⟨old, he⟩ := gf.en
          obtain ⟨oi, hi, _, hid⟩ := gf.li
          have hTo' : h1.get? b = some { cls := .type "tuple", data := .seq #[.int (j : Nat) tk, x] } := hTo
          simp only [List.mem_cons, List.not_mem_nil, or_false] at hb
          rcases hb with z | z | z | z
          · rw [← z, hTo'] at hgo; cases hgo; cases hgd
          · rw [← z] at hno; rw [show h1.get? b = _ from hTo'] at hno; cases hno; cases hnd
          · have he' : h1.get? e = some { cls := .type "enumerate", dict := none, data := .fields #[.none, .bool false, .ref it, rawInt ((j + 1 : Nat) : Int), .none, old], slots := #[] } := he
            rw [← z, hTo'] at he'
            injection he' with q
            injection q with q
            injection q with q
            exact absurd q (by decide)
          · rw [← z] at hi; rw [show h1.get? b = _ from hTo'] at hi; cases hi; cases hid
    · exact absurd hp.1 (by omega)
  done := by
    intro i fp pins s σ H E I hf st ⟨gw, hlt⟩
    obtain ⟨e, it, gs, hg, hgs, hf3, hG, goes⟩ := turn_goes we hmg hc hna hcalm I hf st gw
    have hn : N - i = 0 := by omega
    rw [hn] at goes
    refine next_genG (I.ok.hd hcalm) I.nolimit hroom hg hgs goes (fun v s1 gs' hbare hv => ?_) (fun s1 hp h' hk => ⟨rfl, ?_⟩) fun x s1 hx => hx.elim
    · obtain ⟨j, items, T, x, tk, hj, hls, hx, ev, hT, hTo, ⟨h1, tk1, es1, k1⟩, gf, hk⟩ := hv
      exact (hk s1 .none (.inl rfl) gf).elim
    · obtain ⟨_, h1, tk1, es1, k1⟩ := hp
      subst es1
      have I1 : Inv X pins σ H { (s.setGen g .running) with heap := h1, toks := tk1 } := (inv_set (g := g) (x := .running) I rfl).turnedL (ch := [env.locals, e, it]) k1 (fun b hb => hf3 b (List.mem_cons_of_mem _ hb))
      have I2 : Inv X pins σ H (({ (s.setGen g .running) with heap := h1, toks := tk1 } : Shared).setGen g .finished) := inv_set (g := g) I1 rfl
      exact I2.kept (t' := tk1) hk
end
end VI
-- VGk
set_option Elab.async false
set_option linter.all false
set_option maxRecDepth 100000
set_option maxHeartbeats 2000000
namespace VI
open PySem PySem.Spec PyProof.Rows L2
open Sem (wp)
structure WScope (xi xv sn : Str) (sc : Scope) : Prop where
  kind : sc.kind = .function
  co : sc.isCoroutine = false
  gen : sc.isGenerator = true
  hi : sc.names.lookup xi = some .local
  hv : sc.names.lookup xv = some .local
  hs : sc.names.lookup sn = some .local
  he : sc.names.lookup ("enumerate" : Str) = some .globalImplicit
  ne : xi ≠ xv
  di : (xi == ("__debug__" : Str)) = false
  dv : (xv == ("__debug__" : Str)) = false
  ds : (sn == ("__debug__" : Str)) = false
theorem wenv_of {xi xv sn attr : Str} {p2 : Pos} {sc : Scope} {qual : Str} {L f : Addr} {cd : Value} (S : WScope xi xv sn sc)
    (hab : attributeBase (.Name sn p2) attr (envOfC qual sc L f cd) (eval (.Name sn p2) (envOfC qual sc L f cd)) = eval (.Name sn p2) (envOfC qual sc L f cd)) : WEnv (envOfC qual sc L f cd) xi xv sn attr p2 where
  hf := S.kind
  hco := S.co
  hint := by simp [interactive, envOfC, S.kind]
  hxi := S.hi
  hxv := S.hv
  hne := S.ne
  hdi := S.di
  hdv := S.dv
  hsn := S.hs
  hds := S.ds
  hxe := S.he
  hab := hab
  glob := rfl
  blt := rfl
/-- m of the class C is a generator method that walks the list at attr, with the numbers -/
def WalkM (K : PySem.W.Frag) (C : Addr) (m attr : Str) : Prop :=
  ∃ (xi xv sn : Str) (pi pv pt : Pos) (kt : Nat) (p1 p2 p3 p4 p5 q1 q2 q3 q4 q5 : Pos) (kq : Nat) (f : Addr) (name qual : Str) (params : Arguments) (scope : Scope) (fd : FuncData),
    Meth K C m f ∧ FunD K name qual params (bodyW xi xv sn attr pi pv pt kt p1 p2 p3 p4 p5 q1 q2 q3 q4 q5 kq) scope [] [] f fd ∧ WScope xi xv sn scope ∧
    (∀ (kV doc pm : Value) (an : Option Addr) (cdv ct u : Value), bindArgs (PySem.W.fnOf name qual params (bodyW xi xv sn attr pi pv pt kt p1 p2 p3 p4 p5 q1 q2 q3 q4 q5 kq) scope .none kV doc pm an cdv ct) ⟨[u], []⟩ = pure [(sn, u)]) ∧
    ∀ L f cd, attributeBase (.Name sn p2) attr (envOfC qual scope L f cd) (eval (.Name sn p2) (envOfC qual scope L f cd)) = eval (.Name sn p2) (envOfC qual scope L f cd)
/-- o.m(), the generator method of a class that walks a list -/
def iWk (K : PySem.W.Frag) (m : Str) (ta : TE) : TI := fun σ H R => ta σ H fun x H1 => ∃ a dx fs l N C attr, x = .ref a ∧ H1 a = some (.ins C dx fs) ∧ fs.lookup m = none ∧ Cls K C ∧ NoAttr K C attr ∧ WalkM K C m attr ∧ Gw K a l C attr N H1 ∧ R (Iw K a l C attr N) H1
section
variable {X : Cx} {xi xv sn attr : Str} {pi pv pt : Pos} {kt : Nat} {q1 q2 q3 q4 q5 p1 p2 p3 p4 p5 : Pos} {kq : Nat} {C f : Addr} {k : Nat} {o : Expr} {m name qual : Str} {params : Arguments} {scope : Scope} {fd : FuncData} {ta : TE} {apos pos' : Pos} {tg : Expr}
theorem pi_walk {pl : Sem Bool} (he : PE X o ta) (hmg : X.mg "enumerate" = none) (hcalm : X.calm = true) (hr : Room k X.A)
    (ht : eval (.Call (.Attribute o m apos) [] [] pos') X.env = (do
      let ov ← eval o X.env
      standAt apos.atName
      let (f, first) ← holding [ov] (getMethod ov m pl)
      callWith pos' f first (backTo pos' (starEach [] X.env)) (backToKw pos' (keywordEach [] X.env)))) :
    PIG X tg (.Call (.Attribute o m apos) [] [] pos') (iWk X.K m ta) := by
  refine ⟨fun pins s σ H R I h => ?_⟩
  refine PySem.W.methodCall_KW (pl := pl) (thn (he.run pins s σ H _ I h) fun u s1 ⟨x, H1, I1, rx, a, dx, fs, l, N, C, attr, ex, ea, hm0, c, hna, ⟨xi, xv, sn, pi, pv, pt, kt, p1, p2, p3, p4, p5, q1, q2, q3, q4, q5, kq, f, name, qual, params, scope, fd, hm, F, S, hb, hab⟩, gw, hR⟩ => ?_) ht
  subst ex
  obtain rfl : u = Value.ref a := rx
  refine getmeth_ok I1 ea c hm hm0 ?_
  refine PySem.W.callWith_K0 (first := [.ref a]) I1.kIn hm.kp ?_
  obtain ⟨oc, od, dV, kV, doc, pm, an, cdv, ct, osl, e1, lk, hcd, hD, _⟩ := F.ex
  subst e1
  have hdv : dV = .none := by
    rcases hD with ⟨_, z⟩ | ⟨z, _⟩
    · exact z
    · exact absurd rfl z
  subst hdv
  refine wpAny_call (codeAny_call_generator hr.depth (I1.kIn _ _ lk) rfl S.co S.gen rfl (PySem.W.codeRec_of I1.kIn hcd) ?_)
  show wpAny _ _ (bindArgs _ ⟨[.ref a], []⟩) _ _ _
  rw [hb]
  refine wpAny_pure ?_
  refine wpAny_newFunctionEnv_cells S.kind (fun y hy => ?_) fun env he s2 x => ?_
  · simp only [List.mem_singleton] at hy
    subst hy
    exact .inl S.hs
  subst he
  obtain ⟨h2, tk, es2, hk2⟩ := x.done
  have lim : s2.heap.NoLimit := I1.nolimit.keeps x.toInCall.keep
  refine ⟨lim, ?_⟩
  have lt2 : s1.heap.objs.size < s2.heap.objs.size := x.toInCall.ns.lt
  have ns2 := x.toInCall.ns
  subst es2
  have main : ∀ (go : Obj) (nm qn : Value) (tk2 : Nat), go.cls = .type "generator" → go.data = .fields #[.int s1.gens.size 0, nm, qn] → go.slots = #[] → (∀ h : Heap, (h.push go).get? h.objs.size = some go) →
      wpAny (model X.prog X.w) X.A (pyIter (.ref h2.objs.size)) (PIEG X pins σ tg R) X.xe { s1 with gens := s1.gens.push (.fresh (.func (bodyW xi xv sn attr pi pv pt kt p1 p2 p3 p4 p5 q1 q2 q3 q4 q5 kq) (envOfC qual scope s1.heap.objs.size f cdv))), toks := tk2, heap := h2.push go } := by
    intro go nm qn tk2 hgc hgd hgs hgp
    have hgo : (h2.push go).get? h2.objs.size = some go := hgp _
    have hgen : (h2.push go).IsGen h2.objs.size s1.gens.size := ⟨go, nm, qn, hgo, hgc, hgd, hgs⟩
    have kk : ∀ b o, s1.heap.get? b = some o → (h2.push go).get? b = some o := fun b o q => Heap.get?_push_of_some _ (hk2 b o q)
    refine wpAny_pyIter_gen hgen ?_
    have I2 : Inv X pins σ H1 { s1 with gens := s1.gens.push (.fresh (.func (bodyW xi xv sn attr pi pv pt kt p1 p2 p3 p4 p5 q1 q2 q3 q4 q5 kq) (envOfC qual scope s1.heap.objs.size f cdv))), toks := tk2, heap := h2.push go } :=
      inv_gens (I1.kept (t' := tk2) kk) (AllBare.push I1.bare rfl)
    refine ⟨_, s1.gens.size, [h2.objs.size, s1.heap.objs.size], _, _, H1, rfl, I2, turn_walk (wenv_of (L := s1.heap.objs.size) (f := f) (cd := cdv) S (hab _ _ _)) hmg c hna hcalm hr.depth, ⟨rfl, hgen, Array.getElem?_push_size .., _, ns2.at fun o q => Heap.get?_push_of_some _ q, ?_⟩, fun b hb => ?_, hR⟩
    · have hk : (envOfC qual scope s1.heap.objs.size f cdv).kindOf sn = some .local := S.hs
      show bindL (envOfC qual scope s1.heap.objs.size f cdv).kindOf [(sn, .ref a)] (fun _ => none) sn = some (.ref a)
      simp [bindL, hk]
    · simp only [List.mem_cons, List.not_mem_nil, or_false] at hb
      have hle : s1.heap.objs.size ≤ b := by
        rcases hb with z | z
        · rw [z]; exact Nat.le_of_lt lt2
        · rw [z]; exact Nat.le_refl _
      exact I1.fpOk hle (I1.hok.fresh hle)
  exact main _ _ _ _ rfl rfl rfl fun h => Heap.get?_push_size _ rfl
end
end VI
-- VMs
set_option Elab.async false
set_option linter.all false
set_option maxRecDepth 100000
set_option maxHeartbeats 2000000
namespace VI
open PySem PySem.Spec PyProof.Rows L2
theorem mul_one {c : Nat} {k : Int} : Txt.mul ⟨#[c]⟩ k = ⟨(List.replicate k.toNat c).toArray⟩ := by
  unfold Txt.mul
  have go : ∀ (n : Nat) (a : Array Nat), (List.replicate n #[c]).foldl (· ++ ·) a = a ++ (List.replicate n c).toArray := by
    intro n
    induction n with
    | zero => intro a; simp
    | succ n ih =>
      intro a
      rw [List.replicate_succ, List.foldl_cons, ih, List.replicate_succ]
      apply Array.ext'
      simp
  by_cases h : k < 1
  · rw [if_pos h]
    have : k.toNat = 0 := by omega
    rw [this]; rfl
  · rw [if_neg h]
    by_cases h1 : k = 1
    · subst h1
      simp
    · have h2 : ((k == 1 || (⟨#[c]⟩ : Str).length == 0) = true) = False := by simp [h1, Str.length]
      simp only [h2, if_false]
      rw [go]; simp
theorem op_mul_c {X : Cx} : OpR X (binaryOp .Mult) (fun x y H Q => ∃ (c : Nat) (k : Int), x = .str ⟨#[c]⟩ ∧ y = .int k ∧ -1000 ≤ k ∧ k ≤ 1000 ∧ Q (.str ⟨(List.replicate k.toNat c).toArray⟩) H) := by
  rintro pins s σ H x y v u Q I rx ry ⟨c, k, ex, ey, h1, h2, q⟩
  subst ex ey
  obtain ⟨t, rfl⟩ := rx
  obtain ⟨t', rfl⟩ := ry
  refine SB.mul ⟨?_, fun h3 _ => ?_, fun h3 _ => ?_⟩ fun t' tk => ⟨.str ⟨(List.replicate k.toNat c).toArray⟩, H, I.tok tk, ⟨t', by rw [mul_one]⟩, q⟩
  · have a1 : ¬ k < -(2 ^ 63 : Int) := by omega
    have a2 : ¬ k ≥ 2 ^ 63 := by omega
    rw [decide_eq_false a1, decide_eq_false a2]; rfl
  · have e : ((⟨#[c]⟩ : Str).length : Int) = 1 := rfl
    rw [e]
    have : 1 ≤ (2 ^ 63 - 1 : Int) / k := by
      rw [Int.le_ediv_iff_mul_le (by omega)]
      omega
    omega
  · have e : (⟨#[c]⟩ : Str).length * k.toNat = k.toNat := by show 1 * k.toNat = _; omega
    rw [e]
    have z : 1000 ≤ sizeLine := by decide
    simp only [Builtin.Str.tooLong, decide_eq_false_iff_not]
    omega
end VI
-- VC
set_option Elab.async false
set_option linter.all false
set_option maxRecDepth 100000
set_option maxHeartbeats 2000000
namespace VI
open PySem PySem.Spec PyProof.Rows L2

/-! ### the language of evaluations -/
inductive Blt where
  | len | all | any | sum | max2 | min2 | abs | str | int | list | tuple
  deriving DecidableEq
inductive Fm where
  | val | lft | rgt
inductive TyC where
  | b (n : String) | c (c : Nat)
inductive IG where
  | nm (i : Nat) | nil | cons (g r : IG) | tup (gs : IG)
inductive IE where
  | var (i : Nat) | con (d : D) | glo (g : Nat)
  | bin (o : Operator) (a b : IE) | neg (a : IE)
  | cmp (o : CmpOp) (a b : IE) | chn (o p : CmpOp) (a b c : IE)
  | and (a b : IE) | or (a b : IE) | not (a : IE) | ife (c a b : IE)
  | sub (a i : IE) | sli (a l h : IE) | rev (a : IE) | non
  | tup (es : IE) | lst (es : IE)
  | nil | cons (e r : IE) | star (e r : IE)
  | blt (b : Blt) (es : IE) | isi (e : IE) (T : List TyC) | join (o e : IE)
  | call (f : Nat) (es : IE)
  | meth (m : Nat) (o es : IE) | att (m : Nat) (o : IE)
  | frz (e : IE) | one (e : IE)
  | make (c : Nat) (fz : Bool) (es : IE)
  | calS (f : Nat) (e : IE) | makS (c : Nat) (fz : Bool) (e : IE) | calK (f : Nat) (e : IE) (kw : String)
  | mls (es : IE) | mli (e : IE) | mco (elt : IE) (tg : IG) (it cond : IE) (own : List Nat)
  | lni (e : IE) | fsp (es : IE) | fpn | fpc (e r : IE) | fmt (f : Fm) (e : IE) | unk | cat (c : Nat) (m : Nat) | app (o e : IE)
  | comp (elt : IE) (tg : IG) (it cond : IE) (own : List Nat)
  | adm (a b : IE)
  | rn1 (a : IE) | rn2 (a b : IE) | enm (e : IE) | zip (a b : IE)

/-! ### values -/
def fits (n : Nat) : Bool := Nat.ble n 16777216
theorem fits_le {n : Nat} (h : fits n = true) : n ≤ sizeLine := by rw [sizeLine_eq]; exact Nat.le_of_ble_eq_true h
def wideMul (i j : Int) : Bool := Nat.blt (i.natAbs.log2 + j.natAbs.log2) 1000000
def ofStr (z : Str) : D := .str z.cps.toList
def toStr (x : List Nat) : Str := ⟨x.toArray⟩
def flatD : D → Bool
  | .non | .bl _ | .int _ | .str _ => true
  | _ => false
def eqF : D → D → Bool
  | .non, .non => true
  | .bl a, .bl b => a == b
  | .bl a, .int b => (if a then 1 else 0) == b
  | .int a, .bl b => a == (if b then 1 else 0)
  | .int a, .int b => a == b
  | .str a, .str b => a == b
  | _, _ => false
mutual
def toPy : D → Option PyData
  | .non => some .none
  | .bl b => some (.bool b)
  | .int i => some (.int i)
  | .str x => some (.str ⟨x.toArray⟩)
  | .lst xs => (toPys xs).map .list
  | .tup xs => (toPys xs).map .tuple
  | _ => none
def toPys : List D → Option (List PyData)
  | [] => some []
  | x :: xs => match toPy x, toPys xs with
    | some d, some ds => some (d :: ds)
    | _, _ => none
end
def bools? : List D → Option (List Bool)
  | [] => some []
  | .bl b :: r => (bools? r).map (b :: ·)
  | _ => none
def ints? : List D → Option (List Int)
  | [] => some []
  | .int b :: r => (ints? r).map (b :: ·)
  | _ => none
def strs? : List D → Option (List (List Nat))
  | [] => some []
  | .str b :: r => (strs? r).map (b :: ·)
  | _ => none
def cutD (xs : List D) (lo hi : Option Int) : List D := (xs.drop (HT.sIx xs.length 0 lo)).take (HT.sIx xs.length xs.length hi - HT.sIx xs.length 0 lo)
def cutN (xs : List Nat) (lo hi : Option Int) : List Nat := (xs.drop (HT.sIx xs.length 0 lo)).take (HT.sIx xs.length xs.length hi - HT.sIx xs.length 0 lo)

/-! ### operations -/
def pAdd (W : Wd) (a b : D) : Res D := match look W a, look W b with
  | .int i, .int j => .ok (.int (i + j)) W
  | .str x, .str y => if fits (x.length + y.length) then .ok (.str (x ++ y)) W else .no
  | .lst x, .lst y => if fits (x.length + y.length) then .ok (.lst (x ++ y)) W else .no
  | .tup x, .tup y => if fits (x.length + y.length) then .ok (.tup (x ++ y)) W else .no
  | _, _ => .no
/-- two lists, one behind the other, in a new list that may be changed -/
def pAdm (W : Wd) (a b : D) : Res D := match look W a, look W b with
  | .lst x, .lst y => if fits (x.length + y.length) then .ok (.hd W.length) (W ++ [.lst (x ++ y)]) else .no
  | _, _ => .no
def pMul (W : Wd) (a b : D) : Res D := match look W a, look W b with
  | .int i, .int j => if wideMul i j then .ok (.int (i * j)) W else .no
  | .lst x, .int k => if k < 2 ^ 63 && (decide (-(2 ^ 63) ≤ k) && fits (x.length * k.toNat)) then .ok (.lst (List.replicate k.toNat x).flatten) W else .no
  | .str [c], .int k => if decide (-1000 ≤ k) && decide (k ≤ 1000) then .ok (.str (List.replicate k.toNat c)) W else .no
  | _, _ => .no
def pInt (W : Wd) (a b : D) (f : Int → Int → Option Int) : Res D := match look W a, look W b with
  | .int i, .int j => match f i j with
    | some k => .ok (.int k) W
    | none => .no
  | _, _ => .no
def fDiv (i j : Int) : Option Int := if decide (0 < j) && Nat.blt j.natAbs.log2 9000 then some (i / j) else none
def fMod (i j : Int) : Option Int := if decide (0 < j) then some (i % j) else none
def fPow (i j : Int) : Option Int := if decide (0 ≤ j) && (decide (j ≤ 1000000) && Nat.blt i.natAbs (2 ^ 64)) then some (i ^ j.toNat) else none
def fShl (i j : Int) : Option Int := if decide (0 ≤ j) && (decide (j ≤ 1000000) && Nat.blt i.natAbs (2 ^ 64)) then some (i * 2 ^ j.toNat) else none
def pBin (o : Operator) (W : Wd) (a b : D) : Res D := match o with
  | .Add => pAdd W a b
  | .Sub => pInt W a b fun i j => some (i - j)
  | .Mult => pMul W a b
  | .FloorDiv => pInt W a b fDiv
  | .Mod => pInt W a b fMod
  | .Pow => pInt W a b fPow
  | .LShift => pInt W a b fShl
  | _ => .no
def pNeg (W : Wd) (a : D) : Res D := match look W a with
  | .int i => .ok (.int (-i)) W
  | _ => .no
def isNon : D → Bool
  | .non => true
  | _ => false
/-- == of data -/
def eqvD (W : Wd) (a b : D) : Option Bool := match toPy (look W a), toPy (look W b) with
  | some d, some e => if SeqAt.shaped d && SeqAt.shaped e then some (PyData.eqv d e) else none
  | _, _ => none
def inD (W : Wd) (a b : D) : Option Bool := match look W b with
  | .lst xs => if flatD a && xs.all flatD then some (xs.any fun y => eqF y a) else none
  | .tup xs => if flatD a && xs.all flatD then some (xs.any fun y => eqF y a) else none
  | .str z => match a with
    | .str [c] => some (decide (c ∈ z))
    | _ => none
  | _ => none
def rB (W : Wd) (o : Option Bool) : Res D := match o with
  | some b => .ok (.bl b) W
  | none => .no
def cmpI (W : Wd) (a b : D) (f : Int → Int → Bool) (g : List Nat → List Nat → Option Bool) : Res D := match look W a, look W b with
  | .int i, .int j => .ok (.bl (f i j)) W
  | .str x, .str y => rB W (g x y)
  | _, _ => .no
def pCmp (o : CmpOp) (W : Wd) (a b : D) : Res D := match o with
  | .Eq => rB W (eqvD W a b)
  | .NotEq => rB W ((eqvD W a b).map not)
  | .Lt => cmpI W a b (fun i j => decide (i < j)) fun x y => some (decide (x < y))
  | .LtE => cmpI W a b (fun i j => decide (i ≤ j)) fun x y => some (!decide (y < x))
  | .Gt => cmpI W a b (fun i j => decide (j < i)) fun x y => some (decide (y < x))
  | .GtE => cmpI W a b (fun i j => decide (j ≤ i)) fun x y => some (!decide (x < y))
  | .Is => if isNon b then .ok (.bl (isNon a)) W else .no
  | .IsNot => if isNon b then .ok (.bl (!isNon a)) W else .no
  | .In => rB W (inD W a b)
  | .NotIn => rB W ((inD W a b).map not)
def pSub (W : Wd) (a i : D) : Res D := match lookR W a, i with
  | .lst xs, .int k => match atI xs k with
    | some d => .ok d W
    | none => .no
  | .tup xs, .int k => match atI xs k with
    | some d => .ok d W
    | none => .no
  | .str x, .int k => if fits x.length then (match atI x k with
    | some c => .ok (.str [c]) W
    | none => .no) else .no
  | _, _ => .no
def isNonIE : IE → Bool
  | .non => true
  | _ => false
def partE (n : Bool) (r : Res D) : Res (Option Int) := r.bind fun d W => if n then .ok none W else match d with
  | .int i => .ok (some i) W
  | _ => .no
def pSli (W : Wd) (a : D) (lo hi : Option Int) : Res D := match lookR W a with
  | .lst xs => .ok (.lst (cutD xs lo hi)) W
  | .tup xs => .ok (.tup (cutD xs lo hi)) W
  | .str x => if fits x.length then .ok (.str (cutN x lo hi)) W else .no
  | _ => .no
def pRev (W : Wd) (a : D) : Res D := match lookR W a with
  | .lst xs => .ok (.lst xs.reverse) W
  | .tup xs => .ok (.tup xs.reverse) W
  | _ => .no
/-- a value's truth -/
def tru (W : Wd) (d : D) : Option Bool := match lookR W d with
  | .non => some false
  | .bl b => some b
  | .int i => some (i != 0)
  | .str x => if fits x.length then some ((x.length : Int) != 0) else none
  | .lst xs => some (!xs.isEmpty)
  | .tup xs => some (!xs.isEmpty)
  | _ => none
def rBo {α : Type} (o : Option α) (W : Wd) : Res α := match o with
  | some b => .ok b W
  | none => .no
def seq? (W : Wd) (d : D) : Option (List D) := match lookR W d with
  | .lst xs => some xs
  | .tup xs => some xs
  | _ => none
def pBlt (b : Blt) (W : Wd) (es : List D) : Res D := match b, es with
  | .len, [d] => match lookR W d with
    | .lst xs => .ok (.int xs.length) W
    | .tup xs => .ok (.int xs.length) W
    | .str x => if fits x.length then .ok (.int x.length) W else .no
    | _ => .no
  | .all, [d] => match lookR W d with
    | .lst xs => match bools? xs with
      | some bs => .ok (.bl (bs.all id)) W
      | none => .no
    | _ => .no
  | .any, [d] => match lookR W d with
    | .lst xs => match bools? xs with
      | some bs => .ok (.bl (bs.any id)) W
      | none => .no
    | _ => .no
  | .sum, [d] => match lookR W d with
    | .lst xs => match ints? xs with
      | some ns => .ok (.int ns.sum) W
      | none => .no
    | _ => .no
  | .max2, [.int i, .int j] => .ok (.int (if j > i then j else i)) W
  | .min2, [.int i, .int j] => .ok (.int (if j < i then j else i)) W
  | .abs, [.int i] => .ok (.int (if i < 0 then -i else i)) W
  | .str, [.int i] => if Nat.blt i.natAbs.log2 1920 then .ok (ofStr (toString i)) W else .no
  | .int, [.int i] => .ok (.int i) W
  | .int, [.bl k] => .ok (.int (if k then 1 else 0)) W
  | .list, [d] => match seq? W d with
    | some xs => .ok (.lst xs) W
    | none => .no
  | .tuple, [d] => match lookR W d with
    | .lst xs => .ok (.tup xs) W
    | .tup xs => .ok (.tup xs) W
    | _ => .no
  | _, _ => .no
def pJoin (W : Wd) (o e : D) : Res D := match o, lookR W e with
  | .str a, .lst xs => match strs? xs with
    | some ys => if fits ((ys.map (·.length)).sum + ys.length * a.length) then .ok (ofStr (Txt.join (toStr a) (ys.map toStr))) W else .no
    | none => .no
  | _, _ => .no

/-! ### the evaluation -/
/-- what the calls, the classes and the module's constants are -/
structure Tb where
  gl : Nat → D
  cl : Nat → List D → Wd → Res D
  fld : Nat → Nat → Option Nat
  mth : Nat → Nat → Option Nat
  isa : Nat → TyC → Option Bool
  ini : Nat → Nat
  lnm : Nat → Option Nat
  cat : Nat → Nat → Option D
  wlk : Nat → Nat → Option Nat := fun _ _ => none
  ck : Nat → List D → Wd → Res D := fun _ _ _ => .no
/-- an instance made -/
def mkI (T : Tb) (c : Nat) (fz : Bool) (xs : List D) (W : Wd) : Res D := (T.cl (T.ini c) (.hd W.length :: xs) (W ++ [.ins c []])).bind fun d W2 => match d with
  | .non => if fz then frz (.hd W.length) W2 else .ok (.hd W.length) W2
  | _ => .no
def intTx (i : Int) : List Nat := (toString i : Str).cps.toList
/-- a part of an f-string -/
def fmtD (W : Wd) (f : Fm) (d : D) : Res D := match f, d with
  | .val, .str x => if fits x.length then .ok (.str x) W else .no
  | .val, .int i => if Nat.blt i.natAbs.log2 1920 then .ok (ofStr (toString i)) W else .no
  | .lft, .str x => if fits (x.length + 7) then .ok (.str (x ++ List.replicate (7 - x.length) 32)) W else .no
  | .rgt, .int i => if decide (0 ≤ i) && decide (i < 10) then .ok (.str [32, 32, 48 + i.toNat]) W else .no
  | _, _ => .no
def tyNm : D → Option String
  | .non => some "NoneType"
  | .bl _ => some "bool"
  | .int _ => some "int"
  | .str _ => some "str"
  | .lst _ => some "list"
  | .tup _ => some "tuple"
  | _ => none
def tyB (m n : String) : Bool := m == n || (m == "bool" && n == "int")
def tyIs (T : Tb) (W : Wd) (t : TyC) (d : D) : Option Bool := match lookR W d with
  | .ins c _ => T.isa c t
  | e => match t, tyNm e with
    | .b n, some m => some (tyB m n)
    | .c _, some _ => some false
    | _, none => none
def anyTy (T : Tb) (W : Wd) (d : D) : List TyC → Option Bool
  | [] => some false
  | t :: ts => match tyIs T W t d with
    | some true => some true
    | some false => anyTy T W d ts
    | none => none
/-- targets of names -/
def bindG (W : Wd) : IG → D → EnvD → Option EnvD
  | .nm i, d, env => if i < env.length then some (env.set i (some d)) else none
  | .tup gs, d, env => match lookR W d with
    | .tup xs => binds gs xs env
    | _ => none
  | _, _, _ => none
where binds : IG → List D → EnvD → Option EnvD
  | .nil, [], env => some env
  | .cons g r, x :: xs, env => match bindG W g x env with
    | some env1 => binds r xs env1
    | none => none
  | _, _, _ => none
def wipeE (env : EnvD) : List Nat → EnvD
  | [] => env
  | v :: vs => (wipeE env vs).set v none
/-- a comprehension's turns -/
def compL (tg : IG) (cond : EvF Bool) (elt : EvF D) (env : EnvD) : List D → Wd → Res (List D)
  | [], W => .ok [] W
  | x :: xs, W => match bindG W tg x env with
    | none => .no
    | some env1 => match cond env1 W with
      | .ok true W1 => match elt env1 W1 with
        | .ok y W2 => match compL tg cond elt env xs W2 with
          | .ok ys W3 => .ok (y :: ys) W3
          | _ => .no
        | _ => .no
      | .ok false W1 => compL tg cond elt env xs W1
      | _ => .no
def rangeL (lo c : Int) : Nat → Nat → List D
  | _, 0 => []
  | i, n + 1 => .int (lo + (i : Nat) * c) :: rangeL lo c (i + 1) n
def enumL : Nat → List D → List D
  | _, [] => []
  | i, x :: xs => .tup [.int (i : Nat), x] :: enumL (i + 1) xs
def small62 (i : Int) : Bool := decide (-(2 ^ 62) ≤ i) && decide (i < 2 ^ 62)
/-- the evaluations of one term: as a value, as a test, as arguments, as what is walked -/
structure Ev4 where
  e : EvF D
  t : EvF Bool
  a : EvF (List D)
  i : EvF (List D)
def noF {α : Type} : EvF α := fun _ _ => .no
def itF (ev : EvF D) : EvF (List D) := fun env W => (ev env W).bind fun x W1 => match x with
  | .lst xs => .ok xs W1
  | .tup xs => .ok xs W1
  | .str z => .ok (z.map fun c => .str [c]) W1
  | _ => .no
def truF (ev : EvF D) : EvF Bool := fun env W => (ev env W).bind fun x W1 => rBo (tru W1 x) W1
/-- a term whose test is its value's truth -/
def dflt (ev : EvF D) : Ev4 := ⟨ev, truF ev, noF, itF ev⟩
def argF (ev : EvF (List D)) : Ev4 := ⟨noF, noF, ev, noF⟩
def walkF (ev : EvF (List D)) : Ev4 := ⟨noF, noF, noF, ev⟩
def ev (T : Tb) : IE → Ev4
  | .var i => dflt fun env W => match env[i]? with
    | some (some d) => .ok d W
    | _ => .no
  | .con d => dflt fun _ W => .ok d W
  | .glo g => dflt fun _ W => .ok (T.gl g) W
  | .bin o a b => dflt fun env W => ((ev T a).e env W).bind fun x W1 => ((ev T b).e env W1).bind fun y W2 => pBin o W2 x y
  | .neg a => dflt fun env W => ((ev T a).e env W).bind fun x W1 => pNeg W1 x
  | .adm a b => dflt fun env W => ((ev T a).e env W).bind fun x W1 => ((ev T b).e env W1).bind fun y W2 => pAdm W2 x y
  | .cmp o a b => dflt fun env W => ((ev T a).e env W).bind fun x W1 => ((ev T b).e env W1).bind fun y W2 => pCmp o W2 x y
  | .chn o p a b c => dflt fun env W => ((ev T a).e env W).bind fun x W1 => ((ev T b).e env W1).bind fun y W2 => (pCmp o W2 x y).bind fun z W3 => match z with
    | .bl true => ((ev T c).e env W3).bind fun u W4 => pCmp p W4 y u
    | .bl false => .ok (.bl false) W3
    | _ => .no
  | .and a b => ⟨fun env W => ((ev T a).e env W).bind fun x W1 => (rBo (tru W1 x) W1).bind fun k W2 => if k then (ev T b).e env W2 else .ok x W2,
      fun env W => ((ev T a).t env W).bind fun k W1 => if k then (ev T b).t env W1 else .ok false W1, noF, noF⟩
  | .or a b => ⟨fun env W => ((ev T a).e env W).bind fun x W1 => (rBo (tru W1 x) W1).bind fun k W2 => if k then .ok x W2 else (ev T b).e env W2,
      fun env W => ((ev T a).t env W).bind fun k W1 => if k then .ok true W1 else (ev T b).t env W1, noF, noF⟩
  | .not a => ⟨fun env W => ((ev T a).e env W).bind fun x W1 => (rBo (tru W1 x) W1).bind fun k W2 => .ok (.bl (!k)) W2,
      fun env W => ((ev T a).t env W).bind fun k W1 => .ok (!k) W1, noF, noF⟩
  | .ife c a b => ⟨fun env W => ((ev T c).t env W).bind fun k W1 => if k then (ev T a).e env W1 else (ev T b).e env W1, noF, noF,
      itF fun env W => ((ev T c).t env W).bind fun k W1 => if k then (ev T a).e env W1 else (ev T b).e env W1⟩
  | .sub a i => dflt fun env W => ((ev T a).e env W).bind fun x W1 => ((ev T i).e env W1).bind fun y W2 => pSub W2 x y
  | .sli a l h => dflt fun env W => ((ev T a).e env W).bind fun x W1 => (partE (isNonIE l) ((ev T l).e env W1)).bind fun y W2 => (partE (isNonIE h) ((ev T h).e env W2)).bind fun z W3 => pSli W3 x y z
  | .rev a => dflt fun env W => ((ev T a).e env W).bind fun x W1 => pRev W1 x
  | .non => dflt fun _ W => .ok .non W
  | .tup es => dflt fun env W => ((ev T es).a env W).bind fun xs W1 => if fits xs.length then .ok (.tup xs) W1 else .no
  | .lst es => dflt fun env W => ((ev T es).a env W).bind fun xs W1 => if fits xs.length then .ok (.lst xs) W1 else .no
  | .nil => argF fun _ W => .ok [] W
  | .cons e r => argF fun env W => ((ev T e).e env W).bind fun x W1 => ((ev T r).a env W1).bind fun xs W2 => .ok (x :: xs) W2
  | .star e r => argF fun env W => ((ev T e).e env W).bind fun x W1 => match seq? W1 x with
    | some ys => ((ev T r).a env W1).bind fun xs W2 => .ok (ys ++ xs) W2
    | none => .no
  | .blt b es => dflt fun env W => ((ev T es).a env W).bind fun xs W1 => pBlt b W1 xs
  | .isi e ts => dflt fun env W => ((ev T e).e env W).bind fun x W1 => rB W1 (anyTy T W1 x ts)
  | .join o e => dflt fun env W => ((ev T o).e env W).bind fun x W1 => match x with
    | .str z => ((ev T e).e env W1).bind fun y W2 => pJoin W2 (.str z) y
    | _ => .no
  | .call f es => dflt fun env W => ((ev T es).a env W).bind fun xs W1 => T.cl f xs W1
  | .meth m o es => dflt fun env W => ((ev T o).e env W).bind fun x W1 => match look W1 x with
    | .ins c _ => match T.mth c m with
      | some f => ((ev T es).a env W1).bind fun xs W2 => T.cl f (x :: xs) W2
      | none => .no
    | _ => .no
  | .att m o => dflt fun env W => ((ev T o).e env W).bind fun x W1 => match look W1 x with
    | .ins c xs => match T.fld c m with
      | some i => match xs[i]? with
        | some d => .ok d W1
        | none => .no
      | none => .no
    | _ => .no
  | .mls es => dflt fun env W => ((ev T es).a env W).bind fun xs W1 => if fits xs.length then .ok (.hd W1.length) (W1 ++ [.lst xs]) else .no
  | .mli e => dflt fun env W => ((ev T e).e env W).bind fun x W1 => match seq? W1 x with
    | some xs => .ok (.hd W1.length) (W1 ++ [.lst xs])
    | none => .no
  | .mco elt tg it cond own => dflt fun env W => ((ev T it).i env W).bind fun xs W1 => if fits xs.length then (compL tg (ev T cond).t (ev T elt).e (wipeE env own) xs W1).bind fun ys W2 => .ok (.hd W2.length) (W2 ++ [.lst ys]) else .no
  | .calS f e => dflt fun env W => ((ev T e).e env W).bind fun x W1 => match seq? W1 x with
    | some xs => T.cl f xs W1
    | none => .no
  | .makS c fz e => dflt fun env W => ((ev T e).e env W).bind fun x W1 => match seq? W1 x with
    | some xs => mkI T c fz xs W1
    | none => .no
  | .calK f e _ => dflt fun env W => ((ev T e).e env W).bind fun x W1 => T.ck f [x] W1
  | .lni e => dflt fun env W => ((ev T e).e env W).bind fun x W1 => match look W1 x with
    | .ins c _ => match T.lnm c with
      | some f => (T.cl f [x] W1).bind fun d W2 => match d with
        | .int i => if decide (0 ≤ i) && decide (i < 2 ^ 62) then .ok (.int i) W2 else .no
        | _ => .no
      | none => .no
    | _ => .no
  | .cat c m => dflt fun _ W => match T.cat c m with
    | some d => .ok d W
    | none => .no
  | .fsp es => dflt fun env W => ((ev T es).a env W).bind fun xs W1 => match strs? xs with
    | some ys => .ok (.str ys.flatten) W1
    | none => .no
  | .app o e => dflt fun env W => ((ev T o).e env W).bind fun x W1 => match x with
    | .hd n => match W1[n]? with
      | some (.lst _) => ((ev T e).e env W1).bind fun y W2 => match W2[n]? with
        | some (.lst xs) => if fits (xs.length + 1) then .ok .non (W2.set n (.lst (xs ++ [y]))) else .no
        | _ => .no
      | _ => .no
    | _ => .no
  | .fpn => argF fun _ W => .ok [] W
  | .fpc e r => argF fun env W => ((ev T e).e env W).bind fun x W1 => match x with
    | .str z => if Nat.ble z.length 65536 then ((ev T r).a env W1).bind fun xs W2 => .ok (.str z :: xs) W2 else .no
    | _ => .no
  | .fmt f e => dflt fun env W => ((ev T e).e env W).bind fun x W1 => fmtD W1 f x
  | .unk => ⟨noF, noF, noF, noF⟩
  | .one e => ⟨(ev T e).e, (ev T e).t, noF, noF⟩
  | .make c fz es => dflt fun env W => ((ev T es).a env W).bind fun xs W1 => mkI T c fz xs W1
  | .frz e => dflt fun env W => ((ev T e).e env W).bind fun x W1 => frz x W1
  | .comp elt tg it cond own => dflt fun env W => ((ev T it).i env W).bind fun xs W1 => if fits xs.length then (compL tg (ev T cond).t (ev T elt).e (wipeE env own) xs W1).bind fun ys W2 => .ok (.lst ys) W2 else .no
  | .rn1 a => walkF fun env W => ((ev T a).e env W).bind fun x W1 => match x with
    | .int j => if small62 j then .ok (rangeL 0 1 0 j.toNat) W1 else .no
    | _ => .no
  | .rn2 a b => walkF fun env W => ((ev T a).e env W).bind fun x W1 => ((ev T b).e env W1).bind fun y W2 => match x, y with
    | .int i, .int j => if small62 i && small62 j then .ok (rangeL i 1 0 (j - i).toNat) W2 else .no
    | _, _ => .no
  | .enm e => walkF fun env W => ((ev T e).e env W).bind fun x W1 => match x with
    | .lst xs => .ok (enumL 0 xs) W1
    | .tup xs => .ok (enumL 0 xs) W1
    | _ => .no
  | .zip a b => walkF fun env W => ((ev T a).e env W).bind fun x W1 => ((ev T b).e env W1).bind fun y W2 => match x, y with
    | .lst xs, .lst ys => .ok (List.zipWith (fun p q => .tup [p, q]) xs ys) W2
    | .tup xs, .tup ys => .ok (List.zipWith (fun p q => .tup [p, q]) xs ys) W2
    | _, _ => .no
end VI
-- VD
set_option Elab.async false
set_option linter.all false
set_option maxRecDepth 100000
set_option maxHeartbeats 2000000
namespace VI
open PySem PySem.Spec PyProof.Rows L2
section
variable {G : Cls_} {F F1 F2 : Addr → Prop} {r r1 r2 : List Addr} {H H1 H2 : Hp} {W : Wd} {E : XK} {Q : VK} {X : Cx} {a b d : D} {v u : V}
abbrev PostK (X : Cx) := Post X.K

/-! ### what an operation's end gives -/
theorem post_pure {K : PySem.W.Frag} (w : RelW K G F r H W) (h : Rep K G F r H d v) (q : Post K G E Q F r H (.ok d W)) : Q v H := q F r H v .refl w h
theorem post_lst {K : PySem.W.Frag} {xs : List D} {vs : List V} (w : RelW K G F r H W) (h : RepL K G F r H xs vs) (q : Post K G E Q F r H (.ok (.lst xs) W)) : ∀ p, H p = none → Q (.ref p) (upd H p (.lst vs)) := fun p hp => by
  obtain ⟨e1, e2, e3⟩ := new_lst w hp h
  exact q _ _ _ _ e1 e2 e3
theorem post_tup {K : PySem.W.Frag} {xs : List D} {vs : List V} (w : RelW K G F r H W) (h : RepL K G F r H xs vs) (q : Post K G E Q F r H (.ok (.tup xs) W)) : ∀ p, H p = none → Q (.ref p) (upd H p (.tup vs)) := fun p hp => by
  obtain ⟨e1, e2, e3⟩ := new_tup w hp h
  exact q _ _ _ _ e1 e2 e3
theorem toStr_ofStr (z : Str) : toStr z.cps.toList = z := by cases z; simp [toStr]
theorem rep_ofStr {K : PySem.W.Frag} (z : Str) : Rep K G F r H (ofStr z) (.str z) := by
  have e : (⟨z.cps.toList.toArray⟩ : Str) = z := by cases z; simp
  simp only [ofStr, Rep, e]
theorem bool_and {a b : Bool} (h : (a && b) = true) : a = true ∧ b = true := Bool.and_eq_true_iff.mp h

theorem look_tupA {K : PySem.W.Frag} {xs : List D} (h : Rep K G F r H d v) (e : look W d = .tup xs) : d = .tup xs := by
  rcases look_cases W d with q | ⟨n, rfl, ⟨ys, hw, q⟩ | ⟨c, ys, hw, q⟩⟩
  · rw [q] at e; exact e
  · rw [q] at e; cases e
  · rw [q] at e; cases e

/-! ### binary operators -/
theorem pAdd_ok (w : RelW X.K G F r H W) (ha : Rep X.K G F r H a v) (hb : Rep X.K G F r H b u) (q : Post X.K G E Q F r H (pAdd W a b)) : ∃ rd, OpR X (binaryOp .Add) rd ∧ rd v u H Q := by
  unfold pAdd at q
  split at q
  · rename_i i j h1 h2
    have e1 := look_int ha h1
    have e2 := look_int hb h2
    exact ⟨_, op_add, i, j, e1, e2, post_pure w rep_int q⟩
  · rename_i x y h1 h2
    have e1 := look_str ha h1
    have e2 := look_str hb h2
    split at q
    · rename_i hz
      refine ⟨_, op_add_str, _, _, e1, e2, ?_, ?_⟩
      · simp only [Str.length, List.size_toArray]; exact fits_le hz
      · have := post_pure w rep_str q
        rw [← List.append_toArray] at this
        exact this
    · exact q.elim
  · rename_i x y h1 h2
    obtain ⟨p1, vs, e1, s1, t1⟩ := look_lst w ha h1
    obtain ⟨p2, ws, e2, s2, t2⟩ := look_lst w hb h2
    split at q
    · rename_i hz
      exact ⟨_, op_cat, p1, p2, vs, ws, e1, e2, s1, s2, by rw [← t1.length, ← t2.length]; exact fits_le hz, post_lst w (t1.append t2) q⟩
    · exact q.elim
  · rename_i x y h1 h2
    obtain ⟨p1, vs, e1, s1, t1⟩ := look_tup ha h1
    obtain ⟨p2, ws, e2, s2, t2⟩ := look_tup hb h2
    split at q
    · rename_i hz
      refine ⟨_, op_catA, p1, p2, vs, ws, e1, e2, s1, s2, by rw [← t1.length, ← t2.length]; exact fits_le hz, fun z => ?_, fun _ z => ?_, fun _ _ => post_tup w (t1.append t2) q⟩
      · have := t1.nil_iff.mpr z
        subst this
        rw [List.nil_append] at q
        have hd := look_tupA hb h2
        subst hd e2
        exact post_pure w hb q
      · have := t2.nil_iff.mpr z
        subst this
        rw [List.append_nil] at q
        have hd := look_tupA ha h1
        subst hd e1
        exact post_pure w ha q
    · exact q.elim
  · exact q.elim
theorem RepL.rep {K : PySem.W.Frag} {xs : List D} {vs : List V} (h : RepL K G F r H xs vs) : ∀ n : Nat, RepL K G F r H (List.replicate n xs).flatten (List.replicate n vs).flatten
  | 0 => RepL.nil'
  | n + 1 => by
    rw [List.replicate_succ, List.replicate_succ, List.flatten_cons, List.flatten_cons]
    exact h.append (h.rep n)
theorem pMul_ok (w : RelW X.K G F r H W) (ha : Rep X.K G F r H a v) (hb : Rep X.K G F r H b u) (q : Post X.K G E Q F r H (pMul W a b)) : ∃ rd, OpR X (binaryOp .Mult) rd ∧ rd v u H Q := by
  unfold pMul at q
  split at q
  · rename_i i j h1 h2
    have e1 := look_int ha h1
    have e2 := look_int hb h2
    split at q
    · rename_i hz
      exact ⟨_, op_mulW, i, j, e1, e2, (by simpa [wideMul, CMulW, Nat.blt_eq] using hz), post_pure w rep_int q⟩
    · exact q.elim
  · rename_i x k h1 h2
    obtain ⟨p1, vs, e1, s1, t1⟩ := look_lst w ha h1
    have e2 := look_int hb h2
    split at q
    · rename_i hz
      obtain ⟨z1, z2⟩ := bool_and hz
      obtain ⟨z2, z3⟩ := bool_and z2
      exact ⟨_, op_rep, p1, k, vs, e1, e2, s1, of_decide_eq_true z2, of_decide_eq_true z1, by rw [← t1.length]; exact fits_le z3, post_lst w (t1.rep _) q⟩
    · exact q.elim
  · rename_i c k h1 h2
    have e1 := look_str ha h1
    have e2 := look_int hb h2
    split at q
    · rename_i hz
      obtain ⟨z1, z2⟩ := bool_and hz
      exact ⟨_, op_mul_c, c, k, e1, e2, of_decide_eq_true z1, of_decide_eq_true z2, post_pure w rep_str q⟩
    · exact q.elim
  · exact q.elim
theorem pInt_ok {op : Value → Value → Sem Value} {f : Int → Int → Option Int} {C : Int → Int → Prop} {g : Int → Int → Int} (hop : OpR X op (rI C fun i j => .int (g i j))) (hf : ∀ i j k, f i j = some k → C i j ∧ g i j = k)
    (w : RelW X.K G F r H W) (ha : Rep X.K G F r H a v) (hb : Rep X.K G F r H b u) (q : Post X.K G E Q F r H (pInt W a b f)) : ∃ rd, OpR X op rd ∧ rd v u H Q := by
  unfold pInt at q
  split at q
  · rename_i i j h1 h2
    have e1 := look_int ha h1
    have e2 := look_int hb h2
    split at q
    · rename_i k hk
      obtain ⟨c, e⟩ := hf i j k hk
      subst e
      exact ⟨_, hop, i, j, e1, e2, c, post_pure w rep_int q⟩
    · exact q.elim
  · exact q.elim
theorem op_subC : OpR X (binaryOp .Sub) (rI (fun _ _ => True) fun i j => .int (i - j)) := fun pins s σ H x y v u Q I rx ry h => by
  obtain ⟨i, j, e1, e2, _, q⟩ := h
  exact op_sub pins s σ H x y v u Q I rx ry ⟨i, j, e1, e2, q⟩
theorem pBin_ok {o : Operator} (w : RelW X.K G F r H W) (ha : Rep X.K G F r H a v) (hb : Rep X.K G F r H b u) (q : Post X.K G E Q F r H (pBin o W a b)) : ∃ rd, OpR X (binaryOp o) rd ∧ rd v u H Q := by
  cases o with
  | Add => exact pAdd_ok w ha hb q
  | Sub => exact pInt_ok op_subC (fun i j k e => ⟨trivial, Option.some.inj e⟩) w ha hb q
  | Mult => exact pMul_ok w ha hb q
  | MatMult => exact q.elim
  | Div => exact q.elim
  | Mod =>
    refine pInt_ok op_mod (fun i j k e => ?_) w ha hb q
    unfold fMod at e
    split at e
    · rename_i z; exact ⟨of_decide_eq_true z, Option.some.inj e⟩
    · cases e
  | Pow =>
    refine pInt_ok op_pow (fun i j k e => ?_) w ha hb q
    unfold fPow at e
    split at e
    · rename_i z
      obtain ⟨z1, z2⟩ := bool_and z
      obtain ⟨z2, z3⟩ := bool_and z2
      exact ⟨⟨of_decide_eq_true z1, of_decide_eq_true z2, by simpa [Nat.blt_eq] using z3⟩, Option.some.inj e⟩
    · cases e
  | LShift =>
    refine pInt_ok op_shl (fun i j k e => ?_) w ha hb q
    unfold fShl at e
    split at e
    · rename_i z
      obtain ⟨z1, z2⟩ := bool_and z
      obtain ⟨z2, z3⟩ := bool_and z2
      exact ⟨⟨of_decide_eq_true z1, of_decide_eq_true z2, by simpa [Nat.blt_eq] using z3⟩, Option.some.inj e⟩
    · cases e
  | RShift => exact q.elim
  | BitOr => exact q.elim
  | BitXor => exact q.elim
  | BitAnd => exact q.elim
  | FloorDiv =>
    refine pInt_ok op_fdivW (fun i j k e => ?_) w ha hb q
    unfold fDiv at e
    split at e
    · rename_i z
      obtain ⟨z1, z2⟩ := bool_and z
      exact ⟨⟨of_decide_eq_true z1, by simpa [Nat.blt_eq] using z2⟩, Option.some.inj e⟩
    · cases e

/-! ### comparisons -/
section
variable {K : PySem.W.Frag}
mutual
theorem toPy_dp : ∀ {d : D} {v : V} {p : PyData}, Rep K G F r H d v → toPy d = some p → Dp K H v p
  | .non, v, p, h, e => by simp only [toPy] at e; cases e; rw [h.non]; exact .non
  | .bl b, v, p, h, e => by simp only [toPy] at e; cases e; rw [h.bl]; exact .bl b
  | .int i, v, p, h, e => by simp only [toPy] at e; cases e; rw [h.int]; exact .int i
  | .str x, v, p, h, e => by simp only [toPy] at e; cases e; rw [h.str]; exact .str _
  | .lst xs, v, p, h, e => by
    simp only [toPy] at e
    cases q : toPys xs with
    | none => rw [q] at e; cases e
    | some ds =>
      rw [q] at e; cases e
      obtain ⟨a, vs, rfl, hs, t⟩ := h.lst
      exact .lst (.of hs) (toPys_dp t q)
  | .tup xs, v, p, h, e => by
    simp only [toPy] at e
    cases q : toPys xs with
    | none => rw [q] at e; cases e
    | some ds =>
      rw [q] at e; cases e
      obtain ⟨a, vs, rfl, hs, t⟩ := h.tup
      exact .tup hs (toPys_dp t q)
  | .ins c xs, v, p, h, e => by simp only [toPy] at e; cases e
  | .hd n, v, p, h, e => by simp only [toPy] at e; cases e
theorem toPys_dp : ∀ {ds : List D} {vs : List V} {ps : List PyData}, RepL K G F r H ds vs → toPys ds = some ps → DpAll K H vs ps
  | [], vs, ps, h, e => by simp only [toPys] at e; cases e; rw [h.inv0]; exact .nil
  | x :: xs, vs, ps, h, e => by
    obtain ⟨v, ws, rfl, h1, h2⟩ := h.inv
    simp only [toPys] at e
    cases q1 : toPy x with
    | none => rw [q1] at e; cases e
    | some d =>
      cases q2 : toPys xs with
      | none => rw [q1, q2] at e; cases e
      | some ds =>
        rw [q1, q2] at e; cases e
        exact .cons (toPy_dp h1 q1) (toPys_dp h2 q2)
end
/-- .. of what is read now -/
theorem toPy_look (w : RelW K G F r H W) (h : Rep K G F r H d v) {p : PyData} (e : toPy (look W d) = some p) : Dp K H v p := by
  rcases look_cases W d with q | ⟨n, rfl, ⟨ys, hw, q⟩ | ⟨c, ys, hw, q⟩⟩
  · rw [q] at e; exact toPy_dp h e
  · rw [q] at e
    simp only [toPy] at e
    cases z : toPys ys with
    | none => rw [z] at e; cases e
    | some ds =>
      rw [z] at e; cases e
      obtain ⟨a, vs, rfl, hs, t⟩ := look_lst w h q
      exact .lst (.of hs) (toPys_dp t z)
  · rw [q] at e; simp only [toPy] at e; cases e
theorem flat_v (h : Rep K G F r H d v) (f : flatD d = true) : flatV v = true := by
  cases d with
  | non => rw [h.non]; rfl
  | bl b => rw [h.bl]; rfl
  | int b => rw [h.int]; rfl
  | str b => rw [h.str]; rfl
  | _ => cases f
theorem eqF_v {y x : D} {p q : V} (hy : Rep K G F r H y p) (hx : Rep K G F r H x q) (fy : flatD y = true) (fx : flatD x = true) : eqV p q = eqF y x := by
  cases y <;> (try (exact absurd fy Bool.false_ne_true)) <;> cases x <;> (try (exact absurd fx Bool.false_ne_true))
  · rw [hy.non, hx.non] <;> rfl
  · rw [hy.non, hx.bl] <;> rfl
  · rw [hy.non, hx.int] <;> rfl
  · rw [hy.non, hx.str] <;> rfl
  · rw [hy.bl, hx.non] <;> rfl
  · rw [hy.bl, hx.bl] <;> rfl
  · rw [hy.bl, hx.int] <;> rfl
  · rw [hy.bl, hx.str] <;> rfl
  · rw [hy.int, hx.non] <;> rfl
  · rw [hy.int, hx.bl] <;> rfl
  · rw [hy.int, hx.int] <;> rfl
  · rw [hy.int, hx.str] <;> rfl
  · rw [hy.str, hx.non] <;> rfl
  · rw [hy.str, hx.bl] <;> rfl
  · rw [hy.str, hx.int] <;> rfl
  · rw [hy.str, hx.str]
    simp only [eqV, eqF]
    rw [Bool.eq_iff_iff, beq_iff_eq, beq_iff_eq]
    constructor
    · intro e
      injection e with e
      simpa using congrArg Array.toList e
    · intro e
      rw [e]
theorem any_eqF {x : D} {q : V} (hx : Rep K G F r H x q) (fx : flatD x = true) : ∀ {xs : List D} {vs : List V}, RepL K G F r H xs vs → xs.all flatD = true → vs.all flatV = true ∧ inV q vs = xs.any fun y => eqF y x
  | [], vs, h, _ => by rw [h.inv0]; exact ⟨rfl, rfl⟩
  | y :: ys, _, h, f => by
    obtain ⟨v, ws, rfl, h1, h2⟩ := h.inv
    rw [List.all_cons] at f
    obtain ⟨f1, f2⟩ := bool_and f
    obtain ⟨i1, i2⟩ := any_eqF hx fx h2 f2
    refine ⟨by rw [List.all_cons, flat_v h1 f1, i1]; rfl, ?_⟩
    unfold inV at i2 ⊢
    rw [List.any_cons, List.any_cons, i2, eqF_v h1 hx f1 fx]
end
theorem inD_ok {op : Bool} {k : Bool} (w : RelW X.K G F r H W) (ha : Rep X.K G F r H a v) (hb : Rep X.K G F r H b u) (e : inD W a b = some k) (q : Q (.bl (if op then !k else k)) H) : ∃ rd, OpR X (compareOp (if op then .NotIn else .In)) rd ∧ rd v u H Q := by
  have seq : ∀ (xs : List D) (p : Addr) (vs : List V), u = .ref p → (SqL X.K H p vs ∨ SqT X.K H p vs) → RepL X.K G F r H xs vs → (if (flatD a && xs.all flatD) = true then some (xs.any fun y => eqF y a) else none) = some k → ∃ rd, OpR X (compareOp (if op then .NotIn else .In)) rd ∧ rd v u H Q := by
    intro xs p vs e1 hs t e
    split at e
    · rename_i z
      obtain ⟨z1, z2⟩ := bool_and z
      obtain ⟨i1, i2⟩ := any_eqF ha z1 t z2
      have e2 := Option.some.inj e
      rw [← i2] at e2
      subst e2
      cases op with
      | true => exact ⟨_, op_notIn_seq, p, vs, e1, hs, flat_v ha z1, i1, q⟩
      | false => exact ⟨_, op_in_seq, p, vs, e1, hs, flat_v ha z1, i1, q⟩
    · cases e
  unfold inD at e
  split at e
  · rename_i xs h1
    obtain ⟨p, vs, e1, s1, t1⟩ := look_lst w hb h1
    exact seq xs p vs e1 (.inl (.of s1)) t1 e
  · rename_i xs h1
    obtain ⟨p, vs, e1, s1, t1⟩ := look_tup hb h1
    exact seq xs p vs e1 (.inr s1) t1 e
  · rename_i z h1
    have e1 := look_str hb h1
    split at e
    · rename_i c
      have e2 := ha.str
      have e3 := Option.some.inj e
      subst e3
      have e4 : decide (c ∈ (⟨z.toArray⟩ : Str).cps.toList) = decide (c ∈ z) := by simp
      cases op with
      | true => exact ⟨_, op_notIn_sign, c, ⟨z.toArray⟩, e2, e1, by rw [e4]; exact q⟩
      | false => exact ⟨_, op_in_sign, c, ⟨z.toArray⟩, e2, e1, by rw [e4]; exact q⟩
    · cases e
  · cases e
theorem isNon_v {K : PySem.W.Frag} (h : Rep K G F r H d v) : decide (v = .non) = isNon d := by
  cases d with
  | non => rw [h.non]; rfl
  | bl b => rw [h.bl]; rfl
  | int b => rw [h.int]; rfl
  | str b => rw [h.str]; rfl
  | lst b => obtain ⟨_, _, rfl, _⟩ := h.lst; rfl
  | tup b => obtain ⟨_, _, rfl, _⟩ := h.tup; rfl
  | ins c b => obtain ⟨_, _, _, rfl, _⟩ := h.ins; rfl
  | hd n => obtain ⟨_, _, rfl⟩ := h.hd; rfl
theorem rB_ok {K : PySem.W.Frag} {o : Option Bool} (w : RelW K G F r H W) (q : Post K G E Q F r H (rB W o)) : ∃ k, o = some k ∧ Q (.bl k) H := by
  cases o with
  | none => exact q.elim
  | some k => exact ⟨k, rfl, post_pure w rep_bl q⟩
theorem eqvD_ok {neg k : Bool} (hu : X.A.units + 64 < cLine) (w : RelW X.K G F r H W) (ha : Rep X.K G F r H a v) (hb : Rep X.K G F r H b u) (e : eqvD W a b = some k) (q : Q (.bl (if neg then !k else k)) H) :
    ∃ rd, OpR X (compareOp (if neg then .NotEq else .Eq)) rd ∧ rd v u H Q := by
  unfold eqvD at e
  split at e
  · rename_i p1 p2 h1 h2
    split at e
    · rename_i z
      obtain ⟨z1, z2⟩ := bool_and z
      have e2 := Option.some.inj e
      subst e2
      cases neg with
      | true => exact ⟨_, op_neD hu, p1, p2, toPy_look w ha h1, toPy_look w hb h2, z1, z2, q⟩
      | false => exact ⟨_, op_eqD hu, p1, p2, toPy_look w ha h1, toPy_look w hb h2, z1, z2, q⟩
    · cases e
  · cases e
theorem cmpI_ok {op : CmpOp} {f : Int → Int → Bool} {g : List Nat → List Nat → Bool} (hi : OpR X (compareOp op) (rI0 fun i j => .bl (f i j))) (hs : OpR X (compareOp op) (fun x y H Q => ∃ i j, x = .str i ∧ y = .str j ∧ Q (.bl (g i.cps.toList j.cps.toList)) H))
    (w : RelW X.K G F r H W) (ha : Rep X.K G F r H a v) (hb : Rep X.K G F r H b u) (q : Post X.K G E Q F r H (cmpI W a b f fun x y => some (g x y))) : ∃ rd, OpR X (compareOp op) rd ∧ rd v u H Q := by
  unfold cmpI at q
  split at q
  · rename_i i j h1 h2
    exact ⟨_, hi, i, j, look_int ha h1, look_int hb h2, post_pure w rep_bl q⟩
  · rename_i x y h1 h2
    obtain ⟨k, e, q⟩ := rB_ok w q
    have e := Option.some.inj e
    subst e
    exact ⟨_, hs, _, _, look_str ha h1, look_str hb h2, by simpa using q⟩
  · exact q.elim
theorem pCmp_ok {op : CmpOp} (hu : X.A.units + 64 < cLine) (w : RelW X.K G F r H W) (ha : Rep X.K G F r H a v) (hb : Rep X.K G F r H b u) (q : Post X.K G E Q F r H (pCmp op W a b)) : ∃ rd, OpR X (compareOp op) rd ∧ rd v u H Q := by
  cases op with
  | Eq =>
    obtain ⟨k, e, q⟩ := rB_ok w q
    exact eqvD_ok (neg := false) hu w ha hb e q
  | NotEq =>
    obtain ⟨k, e, q⟩ := rB_ok w q
    cases h : eqvD W a b with
    | none => rw [h] at e; cases e
    | some k' =>
      rw [h] at e
      have e := Option.some.inj e
      subst e
      exact eqvD_ok (neg := true) hu w ha hb h q
  | Lt => exact cmpI_ok (g := fun x y => decide (x < y)) op_lt op_lt_str w ha hb q
  | LtE => exact cmpI_ok (g := fun x y => !decide (y < x)) op_le op_le_str w ha hb q
  | Gt => exact cmpI_ok (g := fun x y => decide (y < x)) op_gt op_gt_str w ha hb q
  | GtE => exact cmpI_ok (g := fun x y => !decide (x < y)) op_ge op_ge_str w ha hb q
  | Is =>
    unfold pCmp at q
    simp only at q
    split at q
    · rename_i z
      cases b with
      | non => exact ⟨_, op_isN, hb.non, by rw [isNon_v ha]; exact post_pure w rep_bl q⟩
      | _ => cases z
    · exact q.elim
  | IsNot =>
    unfold pCmp at q
    simp only at q
    split at q
    · rename_i z
      cases b with
      | non => exact ⟨_, op_notN, hb.non, by rw [isNon_v ha]; exact post_pure w rep_bl q⟩
      | _ => cases z
    · exact q.elim
  | In =>
    obtain ⟨k, e, q⟩ := rB_ok w q
    exact inD_ok (op := false) w ha hb e q
  | NotIn =>
    obtain ⟨k, e, q⟩ := rB_ok w q
    cases h : inD W a b with
    | none => rw [h] at e; cases e
    | some k' =>
      rw [h] at e
      have e := Option.some.inj e
      subst e
      exact inD_ok (op := true) w ha hb h q
end
end VI
-- VE
set_option Elab.async false
set_option linter.all false
set_option maxRecDepth 100000
set_option maxHeartbeats 2000000
namespace VI
open PySem PySem.Spec PyProof.Rows L2
section
variable {G : Cls_} {F F1 F2 : Addr → Prop} {r r1 r2 : List Addr} {H H1 H2 : Hp} {W : Wd} {E : XK} {Q : VK} {X : Cx} {a b d : D} {v u : V}

/-! ### subscripts and slices -/
theorem atI_rep {K : PySem.W.Frag} {xs : List D} {vs : List V} {i : Int} {x : D} (t : RepL K G F r H xs vs) (e : atI xs i = some x) : ∃ y, atI vs i = some y ∧ Rep K G F r H x y := by
  unfold atI at e ⊢
  rw [← t.length]
  cases q : ixN xs.length i with
  | none => rw [q] at e; cases e
  | some j =>
    rw [q] at e
    obtain ⟨y, h1, h2⟩ := t.get (i := j) (x := x) e
    exact ⟨y, h1, h2⟩
theorem pSub_ok (w : RelW X.K G F r H W) (ha : Rep X.K G F r H a v) (hb : Rep X.K G F r H b u) (q : Post X.K G E Q F r H (pSub W a b)) : ∃ rd, IxR X rd ∧ rd v u H Q := by
  unfold pSub at q
  split at q
  · rename_i xs k h1
    obtain ⟨p, vs, e1, s1, t1⟩ := lookR_lst w ha h1
    split at q
    · rename_i x hx
      obtain ⟨y, i1, i2⟩ := atI_rep t1 hx
      exact ⟨_, ix_list, p, vs, k, y, e1, hb.int, s1, i1, post_pure w i2 q⟩
    · exact q.elim
  · rename_i xs k h1
    obtain ⟨p, vs, e1, s1, t1⟩ := look_tup ha (lookR_tup h1)
    split at q
    · rename_i x hx
      obtain ⟨y, i1, i2⟩ := atI_rep t1 hx
      exact ⟨_, ix_tup, p, vs, k, y, e1, hb.int, s1, i1, post_pure w i2 q⟩
    · exact q.elim
  · rename_i x k h1
    have e1 : v = .str ⟨x.toArray⟩ := by
      cases a with
      | hd n =>
        cases hw : W[n]? with
        | none => simp only [lookR, hw] at h1; exact look_str ha h1
        | some s => cases s <;> simp only [lookR, hw] at h1 <;> first | exact look_str ha h1 | cases h1
      | _ => exact look_str (W := W) ha h1
    split at q
    · rename_i hz
      split at q
      · rename_i c hc
        exact ⟨_, ix_str, ⟨x.toArray⟩, k, c, e1, hb.int, by simp only [Str.length, List.size_toArray]; exact fits_le hz, by simpa using hc, by
          have := post_pure w rep_str q
          exact this⟩
      · exact q.elim
    · exact q.elim
  · exact q.elim
theorem lookR_str {K : PySem.W.Frag} {x : List Nat} (ha : Rep K G F r H a v) (h1 : lookR W a = .str x) : v = .str ⟨x.toArray⟩ := by
  cases a with
  | hd n =>
    cases hw : W[n]? with
    | none => simp only [lookR, hw] at h1; exact look_str ha h1
    | some s => cases s <;> simp only [lookR, hw] at h1 <;> first | exact look_str ha h1 | cases h1
  | _ => exact look_str (W := W) ha h1
theorem lookR_same {x : D} (h : lookR W d = x) (n1 : ∀ n, x ≠ .hd n) (n2 : ∀ ys, x ≠ .lst ys) : look W d = x := by
  cases d with
  | hd n =>
    cases hw : W[n]? with
    | none => simp only [lookR, hw] at h; exact h
    | some s => cases s <;> simp only [lookR, hw] at h <;> first | exact h | exact absurd h.symm (n2 _)
  | _ => exact h
theorem cutD_rep {K : PySem.W.Frag} {xs : List D} {vs : List V} (t : RepL K G F r H xs vs) (lo hi : Option Int) : RepL K G F r H (cutD xs lo hi) (cutV vs lo hi) := by
  unfold cutD cutV
  rw [← t.length]
  exact (t.drop _).take _
theorem cutD_whole {xs : List D} {lo hi : Option Int} (h : HT.sIx xs.length 0 lo = 0 ∧ HT.sIx xs.length xs.length hi = xs.length) : cutD xs lo hi = xs := by
  unfold cutD
  rw [h.1, h.2]
  simp
theorem pSli_ok {lo hi : Option Int} (w : RelW X.K G F r H W) (ha : Rep X.K G F r H a v) (q : Post X.K G E Q F r H (pSli W a lo hi)) : ∃ rd, SlR X rd ∧ rd v lo hi H Q := by
  unfold pSli at q
  split at q
  · rename_i xs h1
    obtain ⟨p, vs, e1, s1, t1⟩ := lookR_lst w ha h1
    exact ⟨_, sl_list, p, vs, e1, s1, post_lst w (cutD_rep t1 lo hi) q⟩
  · rename_i xs h1
    have h2 := lookR_tup h1
    obtain ⟨p, vs, e1, s1, t1⟩ := look_tup ha h2
    refine ⟨_, sl_tupA, p, vs, e1, s1, fun z => ?_, fun _ => post_tup w (cutD_rep t1 lo hi) q⟩
    rw [← t1.length] at z
    rw [cutD_whole z] at q
    have hd := look_tupA ha h2
    subst hd e1
    exact post_pure w ha q
  · rename_i x h1
    have e1 := lookR_str ha h1
    split at q
    · rename_i hz
      refine ⟨_, sl_str, ⟨x.toArray⟩, e1, by simp only [Str.length, List.size_toArray]; exact fits_le hz, ?_⟩
      have := post_pure w rep_str q
      unfold cutS cutN at *
      simpa [Str.length] using this
    · exact q.elim
  · exact q.elim

/-! ### truth -/
theorem tru_v {K : PySem.W.Frag} {k : Bool} (w : RelW K G F r H W) (h : Rep K G F r H d v) (e : tru W d = some k) : TruV K v H k := by
  unfold tru at e
  split at e
  · rename_i h1
    rw [look_non h (lookR_same h1 (fun _ z => nomatch z) fun _ z => nomatch z)]
    exact (Option.some.inj e).symm
  · rename_i b h1
    rw [look_bl h (lookR_same h1 (fun _ z => nomatch z) fun _ z => nomatch z)]
    exact (Option.some.inj e).symm
  · rename_i i h1
    rw [look_int h (lookR_same h1 (fun _ z => nomatch z) fun _ z => nomatch z)]
    exact (Option.some.inj e).symm
  · rename_i x h1
    rw [lookR_str h h1]
    split at e
    · rename_i hz
      exact ⟨by simp only [Str.length, List.size_toArray]; exact fits_le hz, by simpa [Str.length] using (Option.some.inj e).symm⟩
    · cases e
  · rename_i xs h1
    obtain ⟨p, vs, e1, s1, t1⟩ := lookR_lst w h h1
    subst e1
    refine .inl ⟨vs, s1, ?_⟩
    rw [← Option.some.inj e]
    cases xs with
    | nil => rw [t1.inv0]; rfl
    | cons y ys => obtain ⟨_, _, rfl, _⟩ := t1.inv; rfl
  · rename_i xs h1
    obtain ⟨p, vs, e1, s1, t1⟩ := look_tup h (lookR_tup h1)
    subst e1
    refine .inr (.inl ⟨vs, s1, ?_⟩)
    rw [← Option.some.inj e]
    cases xs with
    | nil => rw [t1.inv0]; rfl
    | cons y ys => obtain ⟨_, _, rfl, _⟩ := t1.inv; rfl
  · cases e

/-! ### built-in functions -/
theorem bools_v {K : PySem.W.Frag} : ∀ {xs : List D} {bs : List Bool} {vs : List V}, bools? xs = some bs → RepL K G F r H xs vs → vs = bs.map V.bl
  | [], bs, vs, e, h => by simp only [bools?] at e; cases e; rw [h.inv0]; rfl
  | .bl b :: xs, bs, vs, e, h => by
    simp only [bools?] at e
    cases q : bools? xs with
    | none => rw [q] at e; cases e
    | some cs =>
      rw [q] at e; cases e
      obtain ⟨v, ws, rfl, h1, h2⟩ := h.inv
      rw [h1.bl, bools_v q h2]; rfl
  | .non :: xs, bs, vs, e, h => by simp only [bools?] at e; cases e
  | .int _ :: xs, bs, vs, e, h => by simp only [bools?] at e; cases e
  | .str _ :: xs, bs, vs, e, h => by simp only [bools?] at e; cases e
  | .lst _ :: xs, bs, vs, e, h => by simp only [bools?] at e; cases e
  | .tup _ :: xs, bs, vs, e, h => by simp only [bools?] at e; cases e
  | .ins _ _ :: xs, bs, vs, e, h => by simp only [bools?] at e; cases e
  | .hd _ :: xs, bs, vs, e, h => by simp only [bools?] at e; cases e
theorem ints_v {K : PySem.W.Frag} : ∀ {xs : List D} {bs : List Int} {vs : List V}, ints? xs = some bs → RepL K G F r H xs vs → vs = bs.map V.int
  | [], bs, vs, e, h => by simp only [ints?] at e; cases e; rw [h.inv0]; rfl
  | .int b :: xs, bs, vs, e, h => by
    simp only [ints?] at e
    cases q : ints? xs with
    | none => rw [q] at e; cases e
    | some cs =>
      rw [q] at e; cases e
      obtain ⟨v, ws, rfl, h1, h2⟩ := h.inv
      rw [h1.int, ints_v q h2]; rfl
  | .non :: xs, bs, vs, e, h => by simp only [ints?] at e; cases e
  | .bl _ :: xs, bs, vs, e, h => by simp only [ints?] at e; cases e
  | .str _ :: xs, bs, vs, e, h => by simp only [ints?] at e; cases e
  | .lst _ :: xs, bs, vs, e, h => by simp only [ints?] at e; cases e
  | .tup _ :: xs, bs, vs, e, h => by simp only [ints?] at e; cases e
  | .ins _ _ :: xs, bs, vs, e, h => by simp only [ints?] at e; cases e
  | .hd _ :: xs, bs, vs, e, h => by simp only [ints?] at e; cases e
theorem strs_v {K : PySem.W.Frag} : ∀ {xs : List D} {bs : List (List Nat)} {vs : List V}, strs? xs = some bs → RepL K G F r H xs vs → vs = (bs.map toStr).map V.str
  | [], bs, vs, e, h => by simp only [strs?] at e; cases e; rw [h.inv0]; rfl
  | .str b :: xs, bs, vs, e, h => by
    simp only [strs?] at e
    cases q : strs? xs with
    | none => rw [q] at e; cases e
    | some cs =>
      rw [q] at e; cases e
      obtain ⟨v, ws, rfl, h1, h2⟩ := h.inv
      rw [h1.str, strs_v q h2]; rfl
  | .non :: xs, bs, vs, e, h => by simp only [strs?] at e; cases e
  | .bl _ :: xs, bs, vs, e, h => by simp only [strs?] at e; cases e
  | .int _ :: xs, bs, vs, e, h => by simp only [strs?] at e; cases e
  | .lst _ :: xs, bs, vs, e, h => by simp only [strs?] at e; cases e
  | .tup _ :: xs, bs, vs, e, h => by simp only [strs?] at e; cases e
  | .ins _ _ :: xs, bs, vs, e, h => by simp only [strs?] at e; cases e
  | .hd _ :: xs, bs, vs, e, h => by simp only [strs?] at e; cases e
theorem seq_v {K : PySem.W.Frag} {xs : List D} (w : RelW K G F r H W) (h : Rep K G F r H d v) (e : seq? W d = some xs) : ∃ p vs, v = .ref p ∧ (SqL K H p vs ∨ SqT K H p vs) ∧ RepL K G F r H xs vs := by
  unfold seq? at e
  split at e
  · rename_i ys h1
    cases e
    obtain ⟨p, vs, e1, s1, t1⟩ := lookR_lst w h h1
    exact ⟨p, vs, e1, .inl s1, t1⟩
  · rename_i ys h1
    cases e
    obtain ⟨p, vs, e1, s1, t1⟩ := look_tup h (lookR_tup h1)
    exact ⟨p, vs, e1, .inr s1, t1⟩
  · cases e
/-- the built-in's value -/
def bltV : Blt → Value
  | .len => .builtin "len" | .all => .builtin "all" | .any => .builtin "any" | .sum => .builtin "sum" | .max2 => .builtin "max" | .min2 => .builtin "min" | .abs => .builtin "abs"
  | .str => .type "str" | .int => .type "int" | .list => .type "list" | .tuple => .type "tuple"
theorem one_v {K : PySem.W.Frag} {x : D} {vs : List V} (h : RepL K G F r H [x] vs) : ∃ v, vs = [v] ∧ Rep K G F r H x v := by
  obtain ⟨v, ws, rfl, h1, h2⟩ := h.inv
  rw [h2.inv0]
  exact ⟨v, rfl, h1⟩
theorem two_v {K : PySem.W.Frag} {x y : D} {vs : List V} (h : RepL K G F r H [x, y] vs) : ∃ v u, vs = [v, u] ∧ Rep K G F r H x v ∧ Rep K G F r H y u := by
  obtain ⟨v, ws, rfl, h1, h2⟩ := h.inv
  obtain ⟨u, rfl, h3⟩ := one_v h2
  exact ⟨v, u, rfl, h1, h3⟩
theorem pBlt_ok {bl : Blt} {es : List D} {vs : List V} (hc : X.calm = true) (w : RelW X.K G F r H W) (h : RepL X.K G F r H es vs) (q : Post X.K G E Q F r H (pBlt bl W es)) : ∃ rd, CallR X (bltV bl) rd ∧ rd vs H Q := by
  unfold pBlt at q
  split at q
  · -- len
    obtain ⟨v, rfl, hv⟩ := one_v h
    split at q
    · rename_i xs h1
      obtain ⟨p, vs, e1, s1, t1⟩ := lookR_lst w hv h1
      exact ⟨_, call_len_seq, p, vs, by rw [e1], .inl s1, by rw [← t1.length]; exact post_pure w rep_int q⟩
    · rename_i xs h1
      obtain ⟨p, vs, e1, s1, t1⟩ := look_tup hv (lookR_tup h1)
      exact ⟨_, call_len_seq, p, vs, by rw [e1], .inr s1, by rw [← t1.length]; exact post_pure w rep_int q⟩
    · rename_i x h1
      split at q
      · rename_i hz
        refine ⟨_, call_len_str, ⟨x.toArray⟩, by rw [lookR_str hv h1], by simp only [Str.length, List.size_toArray]; exact fits_le hz, ?_⟩
        have := post_pure w rep_int q
        simpa [Str.length] using this
      · exact q.elim
    · exact q.elim
  · -- all
    obtain ⟨v, rfl, hv⟩ := one_v h
    split at q
    · rename_i xs h1
      obtain ⟨p, vs, e1, s1, t1⟩ := lookR_lst w hv h1
      split at q
      · rename_i bs hb
        have := bools_v hb t1
        subst this
        exact ⟨_, cr_all hc, p, bs, by rw [e1], s1, post_pure w rep_bl q⟩
      · exact q.elim
    · exact q.elim
  · -- any
    obtain ⟨v, rfl, hv⟩ := one_v h
    split at q
    · rename_i xs h1
      obtain ⟨p, vs, e1, s1, t1⟩ := lookR_lst w hv h1
      split at q
      · rename_i bs hb
        have := bools_v hb t1
        subst this
        exact ⟨_, cr_any hc, p, bs, by rw [e1], s1, post_pure w rep_bl q⟩
      · exact q.elim
    · exact q.elim
  · -- sum
    obtain ⟨v, rfl, hv⟩ := one_v h
    split at q
    · rename_i xs h1
      obtain ⟨p, vs, e1, s1, t1⟩ := lookR_lst w hv h1
      split at q
      · rename_i bs hb
        have := ints_v hb t1
        subst this
        exact ⟨_, cr_sum hc, p, bs, by rw [e1], s1, post_pure w rep_int q⟩
      · exact q.elim
    · exact q.elim
  · obtain ⟨v, u, rfl, h1, h2⟩ := two_v h
    exact ⟨_, call_max2 hc, _, _, by rw [h1.int, h2.int], post_pure w rep_int q⟩
  · obtain ⟨v, u, rfl, h1, h2⟩ := two_v h
    exact ⟨_, call_min2 hc, _, _, by rw [h1.int, h2.int], post_pure w rep_int q⟩
  · obtain ⟨v, rfl, h1⟩ := one_v h
    exact ⟨_, call_abs, _, by rw [h1.int], post_pure w rep_int q⟩
  · obtain ⟨v, rfl, h1⟩ := one_v h
    split at q
    · rename_i hz
      exact ⟨_, call_str_int, _, by rw [h1.int], by simpa [Nat.blt_eq] using hz, post_pure w (rep_ofStr _) q⟩
    · exact q.elim
  · obtain ⟨v, rfl, h1⟩ := one_v h
    exact ⟨_, call_int1, .inl ⟨_, by rw [h1.int], post_pure w rep_int q⟩⟩
  · obtain ⟨v, rfl, h1⟩ := one_v h
    exact ⟨_, call_int1, .inr ⟨_, by rw [h1.bl], post_pure w rep_int q⟩⟩
  · obtain ⟨v, rfl, h1⟩ := one_v h
    split at q
    · rename_i xs hx
      obtain ⟨p, vs, e1, s1, t1⟩ := seq_v w h1 hx
      exact ⟨_, call_list_of, p, vs, by rw [e1], s1, post_lst w t1 q⟩
    · exact q.elim
  · obtain ⟨v, rfl, h1⟩ := one_v h
    split at q
    · rename_i xs hx
      obtain ⟨p, vs, e1, s1, t1⟩ := lookR_lst w h1 hx
      exact ⟨_, call_tuple_of, p, vs, by rw [e1], .inl ⟨s1, post_tup w t1 q⟩⟩
    · rename_i xs hx
      have h2 := lookR_tup hx
      obtain ⟨p, vs, e1, s1, t1⟩ := look_tup h1 h2
      have hd := look_tupA h1 h2
      subst hd e1
      exact ⟨_, call_tuple_of, p, vs, rfl, .inr ⟨s1, post_pure w h1 q⟩⟩
    · exact q.elim
  · exact q.elim
theorem pJoin_ok {x y : D} {v u : V} (w : RelW X.K G F r H W) (ha : Rep X.K G F r H x v) (hb : Rep X.K G F r H y u) (q : Post X.K G E Q F r H (pJoin W x y)) :
    ∃ (z : Str) (p : Addr) (ys : List Str), v = .str z ∧ u = .ref p ∧ (SqL X.K H p (ys.map V.str) ∨ SqT X.K H p (ys.map V.str)) ∧ (ys.map (·.length)).sum + ys.length * z.length ≤ 16777216 ∧ Q (.str (Txt.join z ys)) H := by
  unfold pJoin at q
  split at q
  · rename_i c xs h1
    obtain ⟨p, vs, e1, s1, t1⟩ := lookR_lst w hb h1
    split at q
    · rename_i ys hy
      have := strs_v hy t1
      subst this
      split at q
      · rename_i hz
        refine ⟨toStr c, p, ys.map toStr, ha.str, e1, .inl s1, ?_, post_pure w (rep_ofStr _) q⟩
        have h := Nat.le_of_ble_eq_true hz
        simpa [toStr, Str.length, List.map_map, Function.comp_def] using h
      · exact q.elim
    · exact q.elim
  · exact q.elim
end
end VI
-- VF
set_option Elab.async false
set_option linter.all false
set_option maxRecDepth 100000
set_option maxHeartbeats 2000000
namespace VI
open PySem PySem.Spec PyProof.Rows L2

/-! ### the text's names, by number -/
structure Nm where
  gln : List Str
  free : List Str
  fnn : List Str
  cln : List Str
  mnm : List Str
  kwn : List (Str × Str) := []
/-- the addresses behind the names, the classes' tables -/
structure Tab where
  n : Nm
  G : Cls_
  tb : Tb
  fna : Nat → Addr
  fka : Nat → Addr := fun _ => 0
/-- a callee's promise: what the evaluation gives -/
def spR (K : PySem.W.Frag) (G : Cls_) (cl : List D → Wd → Res D) : Sp := fun vs H Q E => ∃ F r W ds, RelW K G F r H W ∧ RepL K G F r H ds vs ∧ Post K G E Q F r H (cl ds W)
def tyMs : List String := ["NoneType", "bool", "int", "str", "list", "tuple"]
def tyNs : List String := ["bool", "int", "str", "list", "tuple"]
def tyV (T : Tab) : TyC → Value
  | .b n => .type n
  | .c c => .ref (T.G.clsA c)
/-- len(an instance): the class's own __len__ -/
def LenM (K : PySem.W.Frag) (C f : Addr) : Prop := PySem.W.findIn K (.ref C) "__len__" = some (some (.ref f)) ∧ PySem.W.isFn K (.ref f) = true
/-- a constant of a class, asked of the class -/
def CatM (K : PySem.W.Frag) (C : Addr) (x : Str) (v : V) : Prop := ∃ mc u, ClX.CRead K C mc ∧ ClX.CVal K C mc x v u
/-- the facts of the module -/
structure Facts (T : Tab) (K : PySem.W.Frag) (mg : Str → Option Value) : Prop where
  glo : ∀ (g : Nat) (x : Str), T.n.gln[g]? = some x → ∃ u v, mg x = some u ∧ RelV v u ∧ ∀ F r H, Rep K T.G F r H (T.tb.gl g) v
  fre : ∀ x, x ∈ T.n.free → mg x = none
  fnk : ∀ (f : Nat) (x : Str), T.n.fnn[f]? = some x → x ≠ "" → mg x = some (.ref (T.fna f)) ∧ PySem.W.keepIn K (.ref (T.fna f)) = true
  cls : ∀ c m i, T.tb.fld c m = some i → ∃ x, T.n.mnm[m]? = some x ∧ Cls K (T.G.clsA c) ∧ NoAttr K (T.G.clsA c) x ∧ (T.G.flds c)[i]? = some x ∧ (T.G.flds c).Nodup
  mth : ∀ c m f, T.tb.mth c m = some f → ∃ x, T.n.mnm[m]? = some x ∧ Cls K (T.G.clsA c) ∧ Meth K (T.G.clsA c) x (T.fna f) ∧ x ∉ T.G.flds c
  isa : ∀ c t b, T.tb.isa c t = some b → PySem.W.kitOne K (.ref (T.G.clsA c)) (tyV T t) = some b ∧ Cls K (T.G.clsA c) ∧ PySem.W.findIn K (.ref (T.G.clsA c)) "__class__" = some (some (.builtin "object.__class__")) ∧
    PySem.W.specialIn K (.builtin "object.__class__") "__get__" = some (some (.builtin "getset_descriptor.__get__")) ∧ PySem.W.takesIn K (.builtin "object.__class__") = some true ∧ PySem.W.mroIn K (T.G.clsA c) (.type "object") = some true
  isc : ∀ (c : Nat) (x : Str), T.n.cln[c]? = some x → x ≠ "" → ∀ m, m ∈ tyMs → PySem.W.kitOne K (.type m) (.ref (T.G.clsA c)) = some false
  lnm : ∀ c f, T.tb.lnm c = some f → Cls K (T.G.clsA c) ∧ LenM K (T.G.clsA c) (T.fna f)
  cat : ∀ c m d, T.tb.cat c m = some d → ∃ x v, T.n.mnm[m]? = some x ∧ CatM K (T.G.clsA c) x v ∧ ∀ F r H, Rep K T.G F r H d v
  wlk : ∀ c m i, T.tb.wlk c m = some i → ∃ x attr, T.n.mnm[m]? = some x ∧ Cls K (T.G.clsA c) ∧ NoAttr K (T.G.clsA c) attr ∧ (T.G.flds c)[i]? = some attr ∧ (T.G.flds c).Nodup ∧ x ∉ T.G.flds c ∧ WalkM K (T.G.clsA c) x attr
  mak : ∀ (c : Nat) (x : Str), T.n.cln[c]? = some x → x ≠ "" → mg x = some (.ref (T.G.clsA c)) ∧ Mk K (T.G.clsA c) (T.fna (T.tb.ini c))
/-- a def called with one argument by its name -/
def FnK (P : Program) (w : World) (K : PySem.W.Frag) (mg : Str → Option Value) (base : Heap) (k : Nat) (f : Addr) (kw : Str) (sp : Sp) : Prop :=
  ∀ (A : Around) (outer : List Env) (s : Shared) (H : Hp) (u : Value) (v : V) (Q : VK) (E : XK), Room k A → Env0 P w K mg base A outer s H → RelV v u → sp [v] H Q E →
    codeAny (model P w) A (.call (.ref f) ⟨[], [(kw, u)]⟩) (CR (CX P w) outer P w H s Q E) s
structure XOk (T : Tab) (E : XK) (sc : Scope) (N : List Str) (k : Nat) (X : Cx) : Prop where
  fx : Facts T X.K X.mg
  hN : X.N = N
  nd : N.Nodup
  hs : X.env.scope = sc
  calm : X.calm = true
  pass : Passes (CX X.prog X.w) X E
  room : Room (k + 1) X.A
  clk : ∀ f x kw, T.n.kwn[f]? = some (x, kw) → X.mg x = some (.ref (T.fka f)) ∧ PySem.W.keepIn X.K (.ref (T.fka f)) = true ∧ FnK X.prog X.w X.K X.mg X.base k (T.fka f) kw (spR X.K T.G (T.tb.ck f))
  cls : ∀ f, FnR X.prog X.w X.K X.mg X.base (CX X.prog X.w) k (T.fna f) (spR X.K T.G (T.tb.cl f))

/-! ### the look at the text -/
def visB (sc : Scope) (x : Str) : Bool := match sc.names.lookup x with
  | some .local => true
  | some .cell => true
  | some .free => true
  | _ => false
def locB (sc : Scope) (x : Str) : Bool := match sc.names.lookup x with
  | some .local => true
  | some .cell => true
  | _ => false
def glB (sc : Scope) (x : Str) : Bool := match sc.names.lookup x with
  | some .globalImplicit => !(x == "__debug__") && !(x == "__name__")
  | _ => false
def isSt : Expr → Bool
  | .Starred .. => true
  | _ => false
def isSet : Expr → Bool
  | .Set .. => true
  | _ => false
def isSli : Expr → Bool
  | .Slice .. => true
  | _ => false
/-- the test of which is the truth of its value -/
def plainT : Expr → Bool
  | .UnaryOp .Not _ _ => false
  | .BoolOp .. => false
  | .IfExp .. => false
  | .Compare .. => false
  | _ => true
/-- no call without arguments of a plain name (super()) -/
def baseOk : Expr → Bool
  | .Call (.Name ..) [] [] _ => false
  | _ => true
def cEq (c : Const) (d : D) : Bool := match c, d with
  | .none, .non => true
  | .bool a, .bl b => a == b
  | .int a, .int b => decide (a = b)
  | .str s, .str x => decide (s.cps.toList = x)
  | _, _ => false
def bltN : Blt → Str
  | .len => "len" | .all => "all" | .any => "any" | .sum => "sum" | .max2 => "max" | .min2 => "min" | .abs => "abs"
  | .str => "str" | .int => "int" | .list => "list" | .tuple => "tuple"
structure Chk where
  e : Scope → Expr → Bool
  a : Scope → List Expr → Bool
  i : Scope → Expr → Expr → Bool
  j : Scope → List Expr → Bool := fun _ _ => false
def cE (f : Scope → Expr → Bool) : Chk := ⟨f, fun _ _ => false, fun sc _ e => f sc e && !isSet e, fun _ _ => false⟩
def cA (f : Scope → List Expr → Bool) : Chk := ⟨fun _ _ => false, f, fun _ _ _ => false, fun _ _ => false⟩
def cI (f : Scope → Expr → Expr → Bool) : Chk := ⟨fun _ _ => false, fun _ _ => false, f, fun _ _ => false⟩
def asgB (sc : Scope) (fnb : Str → Bool) (x : Str) : Bool := match sc.names.lookup x with
  | some .local => true
  | some .cell => fnb x
  | _ => false
mutual
def chkG (N : List Str) (sc : Scope) (fnb : Str → Bool) : IG → Expr → Bool
  | .nm i, .Name x _ => decide (N[i]? = some x) && asgB sc fnb x
  | .tup gs, .Tuple es _ _ => chkGs N sc fnb gs es
  | _, _ => false
def chkGs (N : List Str) (sc : Scope) (fnb : Str → Bool) : IG → List Expr → Bool
  | .nil, [] => true
  | .cons g r, e :: es => !isSt e && (chkG N sc fnb g e && chkGs N sc fnb r es)
  | _, _ => false
end
def tgIn (own : List Nat) : IG → Bool
  | .nm i => decide (i ∈ own)
  | .nil => true
  | .cons g r => tgIn own g && tgIn own r
  | .tup gs => tgIn own gs
def ownP (N : List Str) (own : List Nat) : List (Str × Nat) := own.map fun i => ((N[i]?).getD Str.empty, i)
def chkP (c : Chk) (ir : IE) (sc : Scope) : Option Expr → Bool
  | none => isNonIE ir
  | some e => !isNonIE ir && c.e sc e
def isTT : IE → Bool
  | .con (.bl true) => true
  | _ => false
def isNilIE : IE → Bool
  | .nil => true
  | _ => false
def noSt1 (ir : IE) : List Expr → Bool
  | [] => isNilIE ir
  | y :: _ => !isSt y
def chkT1 (n : Nm) (sc : Scope) (t : TyC) (e : Expr) : Bool := match t, e with
  | .b m, .Name x _ => decide (m ∈ tyNs) && (decide (x = Str.ofString m) && (decide (x ∈ n.free) && glB sc x))
  | .c c, .Name x _ => decide (n.cln[c]? = some x) && (!(x == "") && glB sc x)
  | _, _ => false
def chkTs (n : Nm) (sc : Scope) : List TyC → List Expr → Bool
  | [], [] => true
  | t :: ts, e :: es => chkT1 n sc t e && chkTs n sc ts es
  | _, _ => false
def chkT (n : Nm) (sc : Scope) (ts : List TyC) (e : Expr) : Bool := match ts, e with
  | [t], .Name x p => chkT1 n sc t (.Name x p)
  | t :: ts, .Tuple es _ _ => Nat.ble es.length 1000 && chkTs n sc (t :: ts) es
  | _, _ => false
def chkL (elt : Chk) (tg : IG) (it cond : Chk) (tt : Bool) (n : Nm) (N : List Str) (own : List Nat) (sc : Scope) (e : Expr) : Bool := match e with
  | .ListComp el [⟨t, iter, ifs, a⟩] s _ => decide (a = 0) && (it.i sc t iter && (!isSet iter && (blkC N sc s (ownP N own) && (chkG N (relS s sc) (fun x => s.names.lookup x == some .cell) tg t && (tgIn own tg && (elt.e (relS s sc) el && (match ifs with
    | [] => tt
    | [c] => !tt && cond.e (relS s sc) c
    | _ => false)))))))
  | _ => false
def chk (n : Nm) (N : List Str) : IE → Chk
  | .var i => cE fun sc e => match e with
    | .Name x _ => decide (N[i]? = some x) && (visB sc x && (!(x == "__debug__") && !(x == "__classdict__")))
    | _ => false
  | .con d => cE fun _ e => match e with
    | .Constant c _ _ => cEq c d
    | _ => false
  | .glo g => cE fun sc e => match e with
    | .Name x _ => decide (n.gln[g]? = some x) && glB sc x
    | _ => false
  | .bin o a b => cE fun sc e => match e with
    | .BinOp x p y _ => decide (p = o) && ((chk n N a).e sc x && (chk n N b).e sc y)
    | _ => false
  | .adm a b => cE fun sc e => match e with
    | .BinOp x p y _ => decide (p = .Add) && ((chk n N a).e sc x && (chk n N b).e sc y)
    | _ => false
  | .neg a => cE fun sc e => match e with
    | .UnaryOp .USub x _ => (chk n N a).e sc x
    | _ => false
  | .cmp o a b => cE fun sc e => match e with
    | .Compare x [p] [y] _ => decide (p = o) && ((chk n N a).e sc x && ((chk n N b).e sc y && !behindInMarks p y))
    | _ => false
  | .chn o p a b c => cE fun sc e => match e with
    | .Compare x [o', p'] [y, z] _ => decide (o' = o) && (decide (p' = p) && ((chk n N a).e sc x && ((chk n N b).e sc y && ((chk n N c).e sc z && !lastMarks [o', p'] [y, z]))))
    | _ => false
  | .and a b => cE fun sc e => match e with
    | .BoolOp .And (x :: y :: rest) p => (chk n N a).e sc x && (chk n N b).e sc (.BoolOp .And (y :: rest) p)
    | _ => false
  | .or a b => cE fun sc e => match e with
    | .BoolOp .Or (x :: y :: rest) p => (chk n N a).e sc x && (chk n N b).e sc (.BoolOp .Or (y :: rest) p)
    | _ => false
  | .one a => cE fun sc e => match e with
    | .BoolOp _ [x] _ => (chk n N a).e sc x
    | _ => false
  | .not a => cE fun sc e => match e with
    | .UnaryOp .Not x _ => (chk n N a).e sc x
    | _ => false
  | .ife c a b => cE fun sc e => match e with
    | .IfExp z x y _ => (chk n N c).e sc z && ((chk n N a).e sc x && (chk n N b).e sc y)
    | _ => false
  | .sub a i => cE fun sc e => match e with
    | .Subscript x y _ => !isSli y && ((chk n N a).e sc x && (chk n N i).e sc y)
    | _ => false
  | .sli a l h => cE fun sc e => match e with
    | .Subscript x (.Slice lo hi none _) _ => (chk n N a).e sc x && (chkP (chk n N l) l sc lo && chkP (chk n N h) h sc hi)
    | _ => false
  | .rev a => cE fun sc e => match e with
    | .Subscript x (.Slice none none (some (.UnaryOp .USub (.Constant (.int 1) _ _) _)) _) _ => (chk n N a).e sc x
    | _ => false
  | .tup es => cE fun sc e => match e with
    | .Tuple xs _ _ => (chk n N es).a sc xs
    | _ => false
  | .lst es => cE fun sc e => match e with
    | .List xs _ => (chk n N es).a sc xs
    | _ => false
  | .nil => cA fun _ es => match es with
    | [] => true
    | _ => false
  | .cons a r => cA fun sc es => match es with
    | x :: xs => !isSt x && ((chk n N a).e sc x && (chk n N r).a sc xs)
    | _ => false
  | .fpn => { cA (fun _ _ => false) with j := fun _ es => match es with
    | [] => true
    | _ => false }
  | .fpc a r => { cA (fun _ _ => false) with j := fun sc es => match es with
    | x :: xs => (chk n N a).e sc x && (chk n N r).j sc xs
    | _ => false }
  | .star a r => cA fun sc es => match es with
    | .Starred x _ :: xs => (chk n N a).e sc x && (chk n N r).a sc xs
    | _ => false
  | .blt b es => cE fun sc e => match e with
    | .Call (.Name x _) (y :: ys) [] _ => decide (x = bltN b) && (decide (x ∈ n.free) && (glB sc x && (!isSt y && (ys.all (fun z => !isSt z) && (chk n N es).a sc (y :: ys)))))
    | _ => false
  | .join a b => cE fun sc e => match e with
    | .Call (.Attribute x nm ap) [y] [] cp => decide (nm = "join") && (baseOk x && (!isSt y && ((ap.endLine == cp.line) && ((chk n N a).e sc x && (chk n N b).e sc y))))
    | _ => false
  | .call f es => cE fun sc e => match e with
    | .Call (.Name x _) ys [] _ => decide (n.fnn[f]? = some x) && (!(x == "") && (glB sc x && ((chk n N es).a sc ys && noSt1 es ys)))
    | _ => false
  | .calS f a => cE fun sc e => match e with
    | .Call (.Name x _) [.Starred y _] [] _ => decide (n.fnn[f]? = some x) && (!(x == "") && (glB sc x && (chk n N a).e sc y))
    | _ => false
  | .mls es => cE fun sc e => match e with
    | .List xs _ => (chk n N es).a sc xs
    | _ => false
  | .mli a => cE fun sc e => match e with
    | .Call (.Name x _) [y] [] _ => decide (x = "list") && (decide (x ∈ n.free) && (glB sc x && (!isSt y && (chk n N a).e sc y)))
    | _ => false
  | .mco elt tg it cond own => cE fun sc e => chkL (chk n N elt) tg (chk n N it) (chk n N cond) (isTT cond) n N own sc e
  | .makS c _ a => cE fun sc e => match e with
    | .Call (.Name x _) [.Starred y _] [] _ => decide (n.cln[c]? = some x) && (!(x == "") && (glB sc x && (chk n N a).e sc y))
    | _ => false
  | .fsp es => cE fun sc e => match e with
    | .JoinedStr (x :: y :: zs) _ => Nat.ble zs.length 200 && (chk n N es).j sc (x :: y :: zs)
    | _ => false
  | .unk => ⟨fun _ _ => true, fun _ _ => true, fun _ _ _ => true, fun _ _ => false⟩
  | .meth m a es => cE fun sc e => match e with
    | .Call (.Attribute x nm ap) ys [] cp => decide (n.mnm[m]? = some nm) && (baseOk x && ((ap.endLine == cp.line) && (Nat.blt ys.length 30 && (ys.all (fun z => !isSt z) && (noSt1 es ys && ((chk n N a).e sc x && (chk n N es).a sc ys))))))
    | _ => false
  | .att m a => cE fun sc e => match e with
    | .Attribute x nm _ => decide (n.mnm[m]? = some nm) && (baseOk x && (chk n N a).e sc x)
    | _ => false
  | .isi a ts => cE fun sc e => match e with
    | .Call (.Name x _) [y, z] [] _ => decide (x = "isinstance") && (decide (x ∈ n.free) && (glB sc x && (!isSt y && (!isSt z && ((chk n N a).e sc y && chkT n sc ts z)))))
    | _ => false
  | .app a b => cE fun sc e => match e with
    | .Call (.Attribute x nm ap) [y] [] cp => decide (nm = "append") && (baseOk x && (!isSt y && ((ap.endLine == cp.line) && ((chk n N a).e sc x && (chk n N b).e sc y))))
    | _ => false
  | .lni a => cE fun sc e => match e with
    | .Call (.Name x _) [y] [] _ => decide (x = "len") && (decide (x ∈ n.free) && (glB sc x && (!isSt y && (chk n N a).e sc y)))
    | _ => false
  | .cat c m => cE fun sc e => match e with
    | .Attribute (.Name x _) nm _ => decide (n.mnm[m]? = some nm) && (decide (n.cln[c]? = some x) && (!(x == "") && glB sc x))
    | _ => false
  | .fmt f a => cE fun sc e => match f, e with
    | .val, .FormattedValue y c none _ => decide (c = -1) && (chk n N a).e sc y
    | .lft, .FormattedValue y c (some (.JoinedStr [.Constant (.str z) _ _] _)) _ => decide (c = -1) && (decide (z = "<7") && (chk n N a).e sc y)
    | .rgt, .FormattedValue y c (some (.JoinedStr [.Constant (.str z) _ _] _)) _ => decide (c = -1) && (decide (z = ">3") && (chk n N a).e sc y)
    | _, _ => false
  | .frz a => cE fun sc e => plainT e && (chk n N a).e sc e
  | .calK f a _ => cE fun sc e => match e with
    | .Call (.Name x _) [] [⟨some kw, y, _⟩] _ => decide (n.kwn[f]? = some (x, kw)) && (glB sc x && (chk n N a).e sc y)
    | _ => false
  | .make c _ es => cE fun sc e => match e with
    | .Call (.Name x _) ys [] _ => decide (n.cln[c]? = some x) && (!(x == "") && (glB sc x && ((chk n N es).a sc ys && noSt1 es ys)))
    | _ => false
  | .comp elt tg it cond own => cE fun sc e => chkL (chk n N elt) tg (chk n N it) (chk n N cond) (isTT cond) n N own sc e
  | .rn1 a => cI fun sc _ e => match e with
    | .Call (.Name x _) [y] [] _ => decide (x = "range") && (decide (x ∈ n.free) && (glB sc x && (!isSt y && (chk n N a).e sc y)))
    | _ => false
  | .rn2 a b => cI fun sc _ e => match e with
    | .Call (.Name x _) [y, z] [] _ => decide (x = "range") && (decide (x ∈ n.free) && (glB sc x && (!isSt y && (!isSt z && ((chk n N a).e sc y && (chk n N b).e sc z)))))
    | _ => false
  | .enm a => cI fun sc t e => match t, e with
    | .Tuple .., .Call (.Name x _) [y] [] _ => decide (x = "enumerate") && (decide (x ∈ n.free) && (glB sc x && (!isSt y && (chk n N a).e sc y)))
    | _, _ => false
  | .zip a b => cI fun sc t e => match t, e with
    | .Tuple .., .Call (.Name x _) [y, z] [] _ => decide (x = "zip") && (decide (x ∈ n.free) && (glB sc x && (!isSt y && (!isSt z && ((chk n N a).e sc y && (chk n N b).e sc z)))))
    | _, _ => false
  | _ => cE fun _ _ => false
end VI
-- VG
set_option Elab.async false
set_option linter.all false
set_option maxRecDepth 100000
set_option maxHeartbeats 2000000
namespace VI
open PySem PySem.Spec PyProof.Rows L2
section
variable {T : Tab} {E : XK} {sc : Scope} {N : List Str} {k : Nat} {X : Cx} {ex a b : Expr} {F F1 : Addr → Prop} {r r1 : List Addr} {H H1 : Hp} {W W1 : Wd} {G : Cls_} {K : PySem.W.Frag}

theorem plain_is {env : Env} {whole : Sem Value} (h : plainT ex = true) : isTrue ex env whole = (do let v ← whole; standAt ex.pos; holding [v] (truthy v)) := by
  cases ex with
  | UnaryOp op x p => cases op <;> first | rfl | exact absurd h Bool.false_ne_true
  | BoolOp => exact absurd h Bool.false_ne_true
  | IfExp => exact absurd h Bool.false_ne_true
  | Compare => exact absurd h Bool.false_ne_true
  | _ => rfl
theorem pt_plain {ev : EvF D} (h : PE X ex (tI X.K T.G E ev)) (p : plainT ex = true) : PT X ex (tIT X.K T.G E (truF ev)) := by
  refine PT.imp (pt_truth h fun _ => plain_is p) fun σ H Q q => ?_
  obtain ⟨F, r, env, W, w, l, q⟩ := q
  refine tI.use (k := fun x W1 => rBo (tru W1 x) W1) isPT w l q fun d W1 F1 r1 H1 v e1 w1 l1 d1 q1 => ?_
  cases z : tru W1 d with
  | none => rw [z] at q1; exact q1.elim
  | some k =>
    rw [z] at q1
    exact ⟨k, tru_v w1 d1 z, q1 F1 r1 H1 .refl w1⟩

/-! ### what is walked -/
structure IterOk (K : PySem.W.Frag) (G : Cls_) (J : It) (xs : List D) (F : Addr → Prop) (r : List Addr) (H : Hp) : Prop where
  ex : ∃ (G_ : Hp → Prop) (Y : Nat → Hp → V → Hp → Prop), Walk J xs.length G_ Y ∧ (∀ F' r' H', Ext F r H F' r' H' → G_ H') ∧
    ∀ F' r' H' W' i x v H'', Ext F r H F' r' H' → RelW K G F' r' H' W' → xs[i]? = some x → Y i H' v H'' → ∃ F'', Ext F' r' H' F'' r' H'' ∧ RelW K G F'' r' H'' W' ∧ Rep K G F'' r' H'' x v
def PostI (K : PySem.W.Frag) (G : Cls_) (E : XK) (R : It → Hp → Prop) (F : Addr → Prop) (r : List Addr) (H : Hp) : Res (List D) → Prop
  | .ok xs W => ∀ (F' : Addr → Prop) (r' : List Addr) (H' : Hp) (J : It), Ext F r H F' r' H' → RelW K G F' r' H' W → IterOk K G J xs F' r' H' → R J H'
  | .exc c xs W => PostX K G E F r H c xs W
  | .no => False
theorem isPI {R : It → Hp → Prop} : IsP K G E (PostI K G E R) where
  no := fun _ _ _ h => h
  exc := fun _ _ _ _ _ _ h => h
  xce := fun _ _ _ _ _ _ h => h
  back := fun F r H F1 r1 H1 x hr e h => by
    cases x with
    | no => exact h
    | exc c xs W => exact PostX.back hr e h
    | ok d W => exact fun F' r' H' J e' w q => h F' r' H' J (e.trans hr e') w q
def tII (K : PySem.W.Frag) (G : Cls_) (E : XK) (ev : EvF (List D)) : TI := fun σ H R => ∃ F r env W, RelW K G F r H W ∧ RelE K G F r H env σ ∧ PostI K G E R F r H (ev env W)
theorem stay_lst {xs : List D} {v : V} (h : Rep K G F r H (.lst xs) v) : ∃ p vs, v = .ref p ∧ (∀ F' r' H', Ext F r H F' r' H' → SqL K H' p vs) ∧ RepL K G F r H xs vs := by
  simp only [Rep] at h
  obtain ⟨p, vs, e, f, q, t⟩ := h
  exact ⟨p, vs, e, fun F' r' H' x => .of ((x.fz p f).2.trans q), t⟩
theorem stay_tup {xs : List D} {v : V} (h : Rep K G F r H (.tup xs) v) : ∃ p vs, v = .ref p ∧ (∀ F' r' H', Ext F r H F' r' H' → SqT K H' p vs) ∧ RepL K G F r H xs vs := by
  simp only [Rep] at h
  obtain ⟨p, vs, e, q, t⟩ := h
  rcases q with ⟨f, q⟩ | q
  · exact ⟨p, vs, e, fun F' r' H' x => .inl (x.rd f q), t⟩
  · exact ⟨p, vs, e, fun F' r' H' x => .inr q, t⟩
theorem iter_at {J : It} {xs : List D} {vs : List V} {S : Hp → Prop} (wk : Walk J vs.length S (YAt vs)) (st : ∀ F' r' H', Ext F r H F' r' H' → S H') (t : RepL K G F r H xs vs) : IterOk K G J xs F r H := by
  refine ⟨S, YAt vs, by rw [t.length]; exact wk, st, fun F' r' H' W' i x v H'' e w hx y => ?_⟩
  obtain ⟨rfl, y⟩ := y
  obtain ⟨u, h1, h2⟩ := (RepL.mono e t).get hx
  rw [y] at h1
  cases h1
  exact ⟨F', .refl, w, h2⟩
theorem get_map_str {z : List Nat} {i : Nat} {x : D} (h : (z.map fun c => D.str [c])[i]? = some x) : ∃ c, z[i]? = some c ∧ x = .str [c] := by
  rw [List.getElem?_map] at h
  cases q : z[i]? with
  | none => rw [q] at h; cases h
  | some c => rw [q] at h; cases h; exact ⟨c, rfl, rfl⟩
theorem pi_plain {ev : EvF D} {tg : Expr} (h : PE X ex (tI X.K T.G E ev)) : PI X tg ex (tII X.K T.G E (itF ev)) := by
  refine ⟨fun pins s σ H R I q => ?_⟩
  obtain ⟨F, r, env, W, w, l, q⟩ := q
  have use : ∀ {R' : V → Hp → Prop}, (∀ d W1 F1 r1 H1 v, ev env W = .ok d W1 → Ext F r H F1 r1 H1 → RelW X.K T.G F1 r1 H1 W1 → Rep X.K T.G F1 r1 H1 d v → R' v H1) → (∀ c xs W1, ev env W = .exc c xs W1 → PostX X.K T.G E F r H c xs W1) → ev env W ≠ .no → tI X.K T.G E ev σ H R' := by
    intro R' h1 h2 h3
    refine ⟨F, r, env, W, w, l, ?_⟩
    cases z : ev env W with
    | no => exact absurd z h3
    | exc c xs W1 => exact h2 c xs W1 z
    | ok d W1 => exact fun F1 r1 H1 v e1 w1 d1 => h1 d W1 F1 r1 H1 v z e1 w1 d1
  unfold itF at q
  cases z : ev env W with
  | no => rw [z] at q; exact q.elim
  | exc c xs W1 =>
    rw [z] at q
    exact (pi_list h).run pins s σ H R I (use (fun d W1 F1 r1 H1 v z' => by rw [z] at z'; cases z') (fun c' xs' W' z' => by rw [z] at z'; cases z'; exact q) (by rw [z]; exact fun y => nomatch y))
  | ok d W1 =>
    rw [z] at q
    have nx : ∀ c xs W', ev env W = .exc c xs W' → PostX X.K T.G E F r H c xs W' := fun c xs W' z' => by rw [z] at z'; cases z'
    have nn : ev env W ≠ .no := by rw [z]; exact fun y => nomatch y
    cases d with
    | lst xs =>
      refine (pi_list h).run pins s σ H R I (use (fun d W2 F1 r1 H1 v z' e1 w1 d1 => ?_) nx nn)
      rw [z] at z'; cases z'
      obtain ⟨p, vs, rfl, st, t⟩ := stay_lst d1
      exact ⟨p, rfl, ⟨vs, st _ _ _ .refl⟩, q F1 r1 H1 _ e1 w1 (iter_at walk_list st t)⟩
    | tup xs =>
      refine (pi_tup h).run pins s σ H R I (use (fun d W2 F1 r1 H1 v z' e1 w1 d1 => ?_) nx nn)
      rw [z] at z'; cases z'
      obtain ⟨p, vs, rfl, st, t⟩ := stay_tup d1
      exact ⟨p, rfl, ⟨vs, st _ _ _ .refl⟩, q F1 r1 H1 _ e1 w1 (iter_at walk_tup st t)⟩
    | str x =>
      refine (pi_str h).run pins s σ H R I (use (fun d W2 F1 r1 H1 v z' e1 w1 d1 => ?_) nx nn)
      rw [z] at z'; cases z'
      refine ⟨⟨x.toArray⟩, d1.str, q F1 r1 H1 _ e1 w1 ⟨fun _ => True, fun i H v H' => H' = H ∧ ∃ c, (⟨x.toArray⟩ : Str).cps[i]? = some c ∧ v = .str ⟨#[c]⟩, ?_, fun _ _ _ _ => trivial, fun F' r' H' W' i y v H'' e w hx yy => ?_⟩⟩
      · have := walk_str (z := ⟨x.toArray⟩)
        simp only [List.size_toArray] at this
        rw [List.length_map]
        exact this
      · obtain ⟨rfl, c, h1, rfl⟩ := yy
        obtain ⟨c', h2, rfl⟩ := get_map_str hx
        simp only [List.getElem?_toArray] at h1
        rw [h1] at h2; cases h2
        exact ⟨F', .refl, w, rep_str⟩
    | _ => exact q.elim

/-! ### one term's look and evaluation agree -/
def tIJ (K : PySem.W.Frag) (G : Cls_) (E : XK) (acc : Str) (ev : EvF (List D)) (σ : L2.St) (H : Hp) (Q : Str → Hp → Prop) : Prop := ∃ F r env W, RelW K G F r H W ∧ RelE K G F r H env σ ∧
  PostA K G E (fun vs H1 => ∃ ys : List Str, vs = ys.map V.str ∧ Q (ys.foldl (· ++ ·) acc) H1) F r H (ev env W)
structure Sd (T : Tab) (N : List Str) (ir : IE) : Prop where
  e : ∀ {E sc k X ex}, XOk T E sc N k X → (chk T.n N ir).e sc ex = true → PE X ex (tI X.K T.G E (ev T.tb ir).e)
  t : ∀ {E sc k X ex}, XOk T E sc N k X → (chk T.n N ir).e sc ex = true → PT X ex (tIT X.K T.G E (ev T.tb ir).t)
  w : ∀ {E sc k X op vs pos}, XOk T E sc N k X → (chk T.n N ir).e sc (.BoolOp op vs pos) = true → PW X (.BoolOp op vs pos) (tIT X.K T.G E (ev T.tb ir).t)
  a : ∀ {E sc k X es}, XOk T E sc N k X → (chk T.n N ir).a sc es = true → PA X es (tIA X.K T.G E (ev T.tb ir).a)
  i : ∀ {E sc k X tg ex}, XOk T E sc N k X → (chk T.n N ir).i sc tg ex = true → PI X tg ex (tII X.K T.G E (ev T.tb ir).i)
  j : ∀ {E sc k X es}, XOk T E sc N k X → (chk T.n N ir).j sc es = true → ∃ ts, PJ X es ts ∧ ∀ acc σ H Q, acc.length + 65536 * es.length ≤ sizeLine → tIJ X.K T.G E acc (ev T.tb ir).a σ H Q → tJs ts acc σ H Q := by exact fun x h => absurd h Bool.false_ne_true
theorem Sd.of {ir : IE} {f : Scope → Expr → Bool} {evf : EvF D} (hc : chk T.n N ir = cE f) (hv : ev T.tb ir = dflt evf)
    (he : ∀ {E sc k X ex}, XOk T E sc N k X → f sc ex = true → PE X ex (tI X.K T.G E evf)) (hp : ∀ {sc ex}, f sc ex = true → plainT ex = true) : Sd T N ir where
  e := fun x h => by rw [hc] at h; rw [hv]; exact he x h
  t := fun x h => by rw [hc] at h; rw [hv]; exact pt_plain (he x h) (hp h)
  w := fun x h => by rw [hc] at h; exact absurd (hp h) Bool.false_ne_true
  a := fun x h => by rw [hc] at h; exact absurd h Bool.false_ne_true
  i := fun x h => by rw [hc] at h; rw [hv]; exact pi_plain (he x (bool_and h).1)
  j := fun x h => by rw [hc] at h; exact absurd h Bool.false_ne_true
theorem Sd.args {ir : IE} {f g : Scope → List Expr → Bool} {evf : EvF (List D)} (hc : chk T.n N ir = { cA f with j := g }) (hv : ev T.tb ir = argF evf)
    (ha : ∀ {E sc k X es}, XOk T E sc N k X → f sc es = true → PA X es (tIA X.K T.G E evf))
    (hj : ∀ {E sc k X es}, XOk T E sc N k X → g sc es = true → ∃ ts, PJ X es ts ∧ ∀ acc σ H Q, acc.length + 65536 * es.length ≤ sizeLine → tIJ X.K T.G E acc evf σ H Q → tJs ts acc σ H Q) : Sd T N ir where
  e := fun x h => by rw [hc] at h; exact absurd h Bool.false_ne_true
  t := fun x h => by rw [hc] at h; exact absurd h Bool.false_ne_true
  w := fun x h => by rw [hc] at h; exact absurd h Bool.false_ne_true
  a := fun x h => by rw [hc] at h; rw [hv]; exact ha x h
  i := fun x h => by rw [hc] at h; exact absurd h Bool.false_ne_true
  j := fun x h => by rw [hc] at h; rw [hv]; exact hj x h
theorem Sd.walk {ir : IE} {f : Scope → Expr → Expr → Bool} {evf : EvF (List D)} (hc : chk T.n N ir = cI f) (hv : ev T.tb ir = walkF evf)
    (hi : ∀ {E sc k X tg ex}, XOk T E sc N k X → f sc tg ex = true → PI X tg ex (tII X.K T.G E evf)) : Sd T N ir where
  e := fun x h => by rw [hc] at h; exact absurd h Bool.false_ne_true
  t := fun x h => by rw [hc] at h; exact absurd h Bool.false_ne_true
  w := fun x h => by rw [hc] at h; exact absurd h Bool.false_ne_true
  a := fun x h => by rw [hc] at h; exact absurd h Bool.false_ne_true
  i := fun x h => by rw [hc] at h; rw [hv]; exact hi x h
  j := fun x h => by rw [hc] at h; exact absurd h Bool.false_ne_true

/-! ### names and constants -/
theorem visB_ok {x : Str} (h : visB sc x = true) : Vis sc x := by
  unfold visB at h
  split at h
  · rename_i q; exact .inl q
  · rename_i q; exact .inr (.inl q)
  · rename_i q; exact .inr (.inr q)
  · cases h
theorem locB_ok {x : Str} (h : locB sc x = true) : Loc sc x := by
  unfold locB at h
  split at h
  · rename_i q; exact .inl q
  · rename_i q; exact .inr q
  · cases h
theorem not_true {b : Bool} (h : (!b) = true) : b = false := by cases b <;> simp_all
theorem glB_ok {x : Str} (hs : X.env.scope = sc) (h : glB sc x = true) : Gl X x ∧ (x == ("__debug__" : Str)) = false ∧ x ≠ "__name__" := by
  unfold glB at h
  split at h
  · rename_i q
    obtain ⟨h1, h2⟩ := bool_and h
    refine ⟨by unfold Gl Env.kindOf; rw [hs]; exact q, not_true h1, ?_⟩
    intro e
    have := not_true h2
    rw [e] at this
    exact absurd this (by decide)
  · cases h
theorem ti_c {d : D} {v : V} (h : ∀ F r H, Rep K G F r H d v) (σ : L2.St) (H : Hp) (Q : VK) (q : tI K G E (fun _ W => .ok d W) σ H Q) : tC v σ H Q := by
  obtain ⟨F, r, env, W, w, l, q⟩ := q
  exact post_pure w (h _ _ _) q
theorem sd_var (i : Nat) : Sd T N (.var i) := by
  refine Sd.of rfl rfl (fun {E sc k X ex} x h => ?_) (fun {sc ex} h => ?_)
  · split at h
    · rename_i y p
      obtain ⟨h1, h2⟩ := bool_and h
      obtain ⟨h2, h3⟩ := bool_and h2
      obtain ⟨h3, h4⟩ := bool_and h3
      refine PE.imp (pe_var (i := i) (by rw [x.hN]; exact of_decide_eq_true h1) (by rw [x.hs]; exact visB_ok h2) (not_true h3) (not_true h4)) fun σ H Q q => ?_
      obtain ⟨F, r, env, W, w, l, q⟩ := q
      simp only at q
      split at q
      · rename_i d hd
        obtain ⟨v, e1, d1⟩ := l.at_ i d hd
        exact ⟨v, e1, post_pure w d1 q⟩
      · exact q.elim
    · cases h
  · split at h
    · rfl
    · cases h
theorem sd_con (d : D) : Sd T N (.con d) := by
  refine Sd.of rfl rfl (fun {E sc k X ex} x h => ?_) (fun {sc ex} h => ?_)
  · split at h
    · rename_i c j p
      unfold cEq at h
      split at h
      · exact PE.imp pe_non (ti_c fun _ _ _ => rep_non)
      · rename_i a b
        rw [beq_iff_eq.mp h]
        exact PE.imp pe_bl (ti_c fun _ _ _ => rep_bl)
      · rename_i a b
        rw [of_decide_eq_true h]
        exact PE.imp pe_int (ti_c fun _ _ _ => rep_int)
      · rename_i s y
        have e : s = ⟨y.toArray⟩ := by
          have := of_decide_eq_true h
          cases s
          simp only at this
          rw [← this]
        rw [e]
        exact PE.imp pe_str (ti_c fun _ _ _ => rep_str)
      · cases h
    · cases h
  · split at h
    · rfl
    · cases h
theorem sd_glo (g : Nat) : Sd T N (.glo g) := by
  refine Sd.of rfl rfl (fun {E sc k X ex} x h => ?_) (fun {sc ex} h => ?_)
  · split at h
    · rename_i y p
      obtain ⟨h1, h2⟩ := bool_and h
      obtain ⟨h2, h3, _⟩ := glB_ok x.hs h2
      obtain ⟨u, v, m, rv, rp⟩ := x.fx.glo g y (of_decide_eq_true h1)
      exact PE.imp (pe_glob h2 m rv h3) (ti_c rp)
    · cases h
  · split at h
    · rfl
    · cases h

/-! ### operators -/
theorem opEx {f : Value → Value → Sem Value} : OpR X f (fun v u H Q => ∃ rd, OpR X f rd ∧ rd v u H Q) := fun pins s σ H x y v u Q I rx ry ⟨rd, h, q⟩ => h pins s σ H x y v u Q I rx ry q
theorem ti_op {f : Value → Value → Sem Value} {ea eb : EvF D} {p : Wd → D → D → Res D} (hp : ∀ {E Q F r H W a b v u}, RelW X.K G F r H W → Rep X.K G F r H a v → Rep X.K G F r H b u → Post X.K G E Q F r H (p W a b) → ∃ rd, OpR X f rd ∧ rd v u H Q)
    (σ : L2.St) (H : Hp) (Q : VK) (q : tI X.K G E (fun env W => (ea env W).bind fun x W1 => (eb env W1).bind fun y W2 => p W2 x y) σ H Q) : tOp (fun v u H Q => ∃ rd, OpR X f rd ∧ rd v u H Q) (tI X.K G E ea) (tI X.K G E eb) σ H Q := by
  obtain ⟨F, r, env, W, w, l, q⟩ := q
  refine tI.use isP w l q fun d1 W1 F1 r1 H1 v1 e1 w1 l1 p1 q1 => ?_
  refine tI.use isP w1 l1 q1 fun d2 W2 F2 r2 H2 v2 e2 w2 l2 p2 q2 => ?_
  exact hp w2 (p1.mono e2) p2 q2
theorem sd_bin (o : Operator) {a b : IE} (ha : Sd T N a) (hb : Sd T N b) : Sd T N (.bin o a b) := by
  refine Sd.of rfl rfl (fun {E sc k X ex} x h => ?_) (fun {sc ex} h => ?_)
  · split at h
    · obtain ⟨h1, h2⟩ := bool_and h
      obtain ⟨h2, h3⟩ := bool_and h2
      rw [of_decide_eq_true h1]
      exact PE.imp (pe_op opEx (ha.e x h2) (hb.e x h3)) (ti_op fun w p q => pBin_ok w p q)
    · cases h
  · split at h
    · rfl
    · cases h
theorem sd_neg {a : IE} (ha : Sd T N a) : Sd T N (.neg a) := by
  refine Sd.of rfl rfl (fun {E sc k X ex} x h => ?_) (fun {sc ex} h => ?_)
  · split at h
    · refine PE.imp (pe_un un_neg (ha.e x h)) fun σ H Q q => ?_
      obtain ⟨F, r, env, W, w, l, q⟩ := q
      refine tI.use isP w l q fun d1 W1 F1 r1 H1 v1 e1 w1 l1 p1 q1 => ?_
      unfold pNeg at q1
      split at q1
      · rename_i i hi
        exact ⟨i, look_int p1 hi, post_pure w1 rep_int q1⟩
      · exact q1.elim
    · cases h
  · split at h
    · rfl
    · cases h
theorem XOk.units (x : XOk T E sc N k X) : X.A.units + 64 < cLine := by have := x.room.un; omega
theorem pCmp_bl {o : CmpOp} {x y d : D} (h : pCmp o W x y = .ok d W1) : ∃ b, d = .bl b ∧ W1 = W := by
  have rb : ∀ o : Option Bool, rB W o = .ok d W1 → ∃ b, d = .bl b ∧ W1 = W := fun o h => by
    cases o with
    | none => cases h
    | some k => cases h; exact ⟨k, rfl, rfl⟩
  have ci : ∀ f g, cmpI W x y f g = .ok d W1 → ∃ b, d = .bl b ∧ W1 = W := fun f g h => by
    unfold cmpI at h
    split at h
    · cases h; exact ⟨_, rfl, rfl⟩
    · exact rb _ h
    · cases h
  cases o with
  | Eq => exact rb _ h
  | NotEq => exact rb _ h
  | Lt => exact ci _ _ h
  | LtE => exact ci _ _ h
  | Gt => exact ci _ _ h
  | GtE => exact ci _ _ h
  | Is =>
    unfold pCmp at h
    simp only at h
    split at h
    · cases h; exact ⟨_, rfl, rfl⟩
    · cases h
  | IsNot =>
    unfold pCmp at h
    simp only at h
    split at h
    · cases h; exact ⟨_, rfl, rfl⟩
    · cases h
  | In => exact rb _ h
  | NotIn => exact rb _ h
/-- the end of a comparison in a test -/
theorem post_test {o : CmpOp} {x y : D} {Q : Bool → Hp → Prop} (q : PostT K G E Q F r H ((pCmp o W x y).bind fun z W3 => rBo (tru W3 z) W3)) : Post K G E (fun v H => ∃ k, v = .bl k ∧ Q k H) F r H (pCmp o W x y) := by
  cases z : pCmp o W x y with
  | no => rw [z] at q; exact q
  | exc c xs W1 => rw [z] at q; exact q
  | ok d W1 =>
    rw [z] at q
    obtain ⟨b, rfl, rfl⟩ := pCmp_bl z
    have q2 : PostT K G E Q F r H (.ok b W1) := q
    exact fun F' r' H' v e w p => ⟨b, p.bl, q2 F' r' H' e w⟩
theorem sd_cmp (o : CmpOp) {a b : IE} (ha : Sd T N a) (hb : Sd T N b) : Sd T N (.cmp o a b) where
  e := fun {E sc k X ex} x h => by
    simp only [chk, cE] at h
    split at h
    · obtain ⟨h1, h2⟩ := bool_and h
      obtain ⟨h2, h3⟩ := bool_and h2
      obtain ⟨h3, h4⟩ := bool_and h3
      rw [of_decide_eq_true h1] at h4 ⊢
      exact PE.imp (pe_cmpR opEx (ha.e x h2) (hb.e x h3) (not_true h4)) (ti_op fun w p q => pCmp_ok x.units w p q)
    · cases h
  t := fun {E sc k X ex} x h => by
    simp only [chk, cE] at h
    split at h
    · obtain ⟨h1, h2⟩ := bool_and h
      obtain ⟨h2, h3⟩ := bool_and h2
      obtain ⟨h3, h4⟩ := bool_and h3
      rw [of_decide_eq_true h1] at h4 ⊢
      refine PT.imp (pt_cmpR opEx (ha.e x h2) (hb.e x h3) (not_true h4)) fun σ H Q q => ?_
      obtain ⟨F, r, env, W, w, l, q⟩ := q
      have q' : PostT X.K T.G E Q F r H (((ev T.tb a).e env W).bind fun x W1 => ((ev T.tb b).e env W1).bind fun y W2 => (pCmp o W2 x y).bind fun z W3 => rBo (tru W3 z) W3) := by
        have e : (ev T.tb (.cmp o a b)).t env W = (((ev T.tb a).e env W).bind fun x W1 => ((ev T.tb b).e env W1).bind fun y W2 => (pCmp o W2 x y).bind fun z W3 => rBo (tru W3 z) W3) := by
          simp only [ev, dflt, truF]
          cases (ev T.tb a).e env W with
          | ok d W1 =>
            simp only [Res.bind]
            cases (ev T.tb b).e env W1 <;> rfl
          | exc => rfl
          | no => rfl
        rw [← e]; exact q
      refine tI.use isPT w l q' fun d1 W1 F1 r1 H1 v1 e1 w1 l1 p1 q1 => ?_
      refine tI.use isPT w1 l1 q1 fun d2 W2 F2 r2 H2 v2 e2 w2 l2 p2 q2 => ?_
      exact pCmp_ok x.units w2 (p1.mono e2) p2 (post_test q2)
    · cases h
  w := fun x h => absurd h Bool.false_ne_true
  a := fun x h => absurd h Bool.false_ne_true
  i := fun {E sc k X tg ex} x h => by
    refine pi_plain (ev := (ev T.tb (.cmp o a b)).e) ?_
    have h := (bool_and h).1
    simp only at h
    split at h
    · obtain ⟨h1, h2⟩ := bool_and h
      obtain ⟨h2, h3⟩ := bool_and h2
      obtain ⟨h3, h4⟩ := bool_and h3
      rw [of_decide_eq_true h1] at h4 ⊢
      exact PE.imp (pe_cmpR opEx (ha.e x h2) (hb.e x h3) (not_true h4)) (ti_op fun w p q => pCmp_ok x.units w p q)
    · cases h
end
end VI
-- VH
set_option Elab.async false
set_option linter.all false
set_option maxRecDepth 100000
set_option maxHeartbeats 2000000
namespace VI
open PySem PySem.Spec PyProof.Rows L2
variable {T : Tab} {N : List Str} {E : XK}

theorem pe_no {X : Cx} {e : Expr} : PE X e (tI X.K T.G E noF) := ⟨fun _ _ _ _ _ _ h => by obtain ⟨_, _, _, _, _, _, q⟩ := h; exact q.elim⟩
theorem pt_no {X : Cx} {e : Expr} : PT X e (tIT X.K T.G E noF) := ⟨fun _ _ _ _ _ _ h => by obtain ⟨_, _, _, _, _, _, q⟩ := h; exact q.elim⟩
theorem pw_no {X : Cx} {e : Expr} : PW X e (tIT X.K T.G E noF) := ⟨fun _ _ _ _ _ _ _ h => by obtain ⟨_, _, _, _, _, _, q⟩ := h; exact q.elim⟩
theorem pa_no {X : Cx} {es : List Expr} : PA X es (tIA X.K T.G E noF) := ⟨fun _ _ _ _ _ _ _ h => by obtain ⟨_, _, _, _, _, _, q⟩ := h; exact q.elim⟩
theorem pi_no {X : Cx} {tg e : Expr} : PI X tg e (tII X.K T.G E noF) := ⟨fun _ _ _ _ _ _ h => by obtain ⟨_, _, _, _, _, _, q⟩ := h; exact q.elim⟩
theorem Sd.pi {a : IE} {k : Nat} {X : Cx} {tg ex : Expr} (h : Sd T N a) (x : XOk T E sc N k X) (c : (chk T.n N a).e sc ex = true) : PI X tg ex (tII X.K T.G E (itF (ev T.tb a).e)) := pi_plain (h.e x c)

/-! ### chains, and, or, not -/
theorem sd_chn (o p : CmpOp) {a b c : IE} (ha : Sd T N a) (hb : Sd T N b) (hc : Sd T N c) : Sd T N (.chn o p a b c) := by
  have he : ∀ {E sc k X ex}, XOk T E sc N k X → (chk T.n N (.chn o p a b c)).e sc ex = true → PE X ex (tI X.K T.G E (ev T.tb (.chn o p a b c)).e) ∧ PT X ex (tIT X.K T.G E (ev T.tb (.chn o p a b c)).t) := fun {E sc k X ex} x h => by
    simp only [chk, cE] at h
    split at h
    · obtain ⟨h1, h⟩ := bool_and h
      obtain ⟨h2, h⟩ := bool_and h
      obtain ⟨h3, h⟩ := bool_and h
      obtain ⟨h4, h⟩ := bool_and h
      obtain ⟨h5, h⟩ := bool_and h
      rw [of_decide_eq_true h1, of_decide_eq_true h2] at h ⊢
      have im : ∀ (Q : VK) (σ : L2.St) (H : Hp), tI X.K T.G E (ev T.tb (.chn o p a b c)).e σ H Q →
          tChain (fun v u H Q => ∃ rd, OpR X (compareOp o) rd ∧ rd v u H Q) (fun v u H Q => ∃ rd, OpR X (compareOp p) rd ∧ rd v u H Q) (tI X.K T.G E (ev T.tb a).e) (tI X.K T.G E (ev T.tb b).e) (tI X.K T.G E (ev T.tb c).e) σ H Q := fun Q σ H q => by
        obtain ⟨F, r, env, W, w, l, q⟩ := q
        refine tI.use isP w l q fun d1 W1 F1 r1 H1 v1 e1 w1 l1 p1 q1 => ?_
        refine tI.use isP w1 l1 q1 fun d2 W2 F2 r2 H2 v2 e2 w2 l2 p2 q2 => ?_
        refine pCmp_ok (E := E) x.units w2 (p1.mono e2) p2 ?_
        cases z : pCmp o W2 d1 d2 with
        | no => rw [z] at q2; exact q2
        | exc cc xs W' => rw [z] at q2; exact q2
        | ok d W' =>
          rw [z] at q2
          obtain ⟨kk, rfl, rfl⟩ := pCmp_bl z
          intro F' r' H' v e w' pv
          refine ⟨kk, pv.bl, ?_⟩
          cases kk with
          | false => exact q2 F' r' H' _ e w' rep_bl
          | true =>
            rw [if_pos rfl]
            have q3 : Post X.K T.G E Q F2 r2 H2 (((ev T.tb c).e env W').bind fun u W4 => pCmp p W4 d2 u) := q2
            have q4 := isP.back F2 r2 H2 F' r' H' _ w'.rh e q3
            refine tI.use isP w' (l2.mono e) q4 fun d3 W3 F3 r3 H3 v3 e3 w3 l3 p3 q5 => ?_
            exact pCmp_ok x.units w3 ((p2.mono e).mono e3) p3 q5
      refine ⟨PE.imp (pe_chain opEx opEx (ha.e x h3) (hb.e x h4) (hc.e x h5) (not_true h)) fun σ H Q q => im Q σ H q, PT.imp (pt_chain opEx opEx (ha.e x h3) (hb.e x h4) (hc.e x h5) (not_true h)) fun σ H Q q => im _ σ H ?_⟩
      obtain ⟨F, r, env, W, w, l, q⟩ := q
      refine ⟨F, r, env, W, w, l, ?_⟩
      have bl : ∀ d W1, (ev T.tb (.chn o p a b c)).e env W = .ok d W1 → ∃ k, d = .bl k := fun d W1 z => by
        simp only [ev, dflt] at z
        cases z1 : (ev T.tb a).e env W with
        | no => rw [z1] at z; cases z
        | exc c xs W' => rw [z1] at z; cases z
        | ok d1 W1' =>
          rw [z1] at z
          simp only [Res.bind] at z
          cases z2 : (ev T.tb b).e env W1' with
          | no => rw [z2] at z; cases z
          | exc c xs W' => rw [z2] at z; cases z
          | ok d2 W2 =>
            rw [z2] at z
            simp only [Res.bind] at z
            cases z3 : pCmp o W2 d1 d2 with
            | no => rw [z3] at z; cases z
            | exc c xs W' => rw [z3] at z; cases z
            | ok d3 W3 =>
              rw [z3] at z
              obtain ⟨kk, rfl, rfl⟩ := pCmp_bl z3
              simp only at z
              cases kk with
              | false => cases z; exact ⟨_, rfl⟩
              | true =>
                simp only at z
                cases z4 : (ev T.tb c).e env W3 with
                | no => rw [z4] at z; cases z
                | exc c xs W' => rw [z4] at z; cases z
                | ok d4 W4 =>
                  rw [z4] at z
                  obtain ⟨kk, rfl, _⟩ := pCmp_bl z
                  exact ⟨_, rfl⟩
      have q' : PostT X.K T.G E Q F r H (truF (ev T.tb (.chn o p a b c)).e env W) := q
      unfold truF at q'
      cases z : (ev T.tb (.chn o p a b c)).e env W with
      | no => rw [z] at q'; exact q'
      | exc cc xs W1 => rw [z] at q'; exact q'
      | ok d W1 =>
        rw [z] at q'
        obtain ⟨kk, rfl⟩ := bl d W1 z
        have q2 : PostT X.K T.G E Q F r H (.ok kk W1) := q'
        exact fun F' r' H' v e w pv => ⟨kk, pv.bl, q2 F' r' H' e w⟩
    · cases h
  exact { e := fun x h => (he x h).1, t := fun x h => (he x h).2, w := fun x h => absurd h Bool.false_ne_true, a := fun x h => absurd h Bool.false_ne_true, i := fun x h => pi_plain (he x (bool_and h).1).1 }

theorem Sd.tv {a : IE} {X : Cx} {E : XK} {env : EnvD} {σ : L2.St} {W : Wd} {F : Addr → Prop} {r : List Addr} {H : Hp} {P : (Addr → Prop) → List Addr → Hp → Res α → Prop} {k : D → Bool → Wd → Res α} {R : V → Hp → Prop} (p : IsP X.K T.G E P) (w : RelW X.K T.G F r H W) (l : RelE X.K T.G F r H env σ)
    (q : P F r H (((ev T.tb a).e env W).bind fun x W1 => (rBo (tru W1 x) W1).bind fun b W2 => k x b W2))
    (hk : ∀ d W1 F1 r1 H1 v b, Ext F r H F1 r1 H1 → RelW X.K T.G F1 r1 H1 W1 → RelE X.K T.G F1 r1 H1 env σ → Rep X.K T.G F1 r1 H1 d v → TruV X.K v H1 b → P F1 r1 H1 (k d b W1) → R v H1) : tI X.K T.G E (ev T.tb a).e σ H R := by
  refine tI.use p w l q fun d W1 F1 r1 H1 v e1 w1 l1 p1 q1 => ?_
  cases z : tru W1 d with
  | none => rw [z] at q1; exact (p.no _ _ _ q1).elim
  | some b => rw [z] at q1; exact hk d W1 F1 r1 H1 v b e1 w1 l1 p1 (tru_v w1 p1 z) q1
theorem sd_and {a b : IE} (ha : Sd T N a) (hb : Sd T N b) : Sd T N (.and a b) := by
  have he : ∀ {E sc k X ex}, XOk T E sc N k X → (chk T.n N (.and a b)).e sc ex = true → PE X ex (tI X.K T.G E (ev T.tb (.and a b)).e) ∧ PW X ex (tIT X.K T.G E (ev T.tb (.and a b)).t) := fun {E sc k X ex} x h => by
    simp only [chk, cE] at h
    split at h
    · obtain ⟨h1, h2⟩ := bool_and h
      refine ⟨PE.imp (pe_andT (ha.e x h1) (hb.e x h2)) fun σ H Q q => ?_, ?_⟩
      · obtain ⟨F, r, env, W, w, l, q⟩ := q
        refine Sd.tv isP w l q fun d W1 F1 r1 H1 v kk e1 w1 l1 p1 t1 q1 => ⟨kk, t1, ?_⟩
        cases kk with
        | true => exact ⟨F1, r1, env, W1, w1, l1, q1⟩
        | false => exact post_pure w1 p1 q1
      · have := pw_and (ha.t x h1) (hb.w x h2)
        refine ⟨fun wh pins s σ H Q I q => this.run wh pins s σ H Q I ?_⟩
        obtain ⟨F, r, env, W, w, l, q⟩ := q
        refine tIT.use isPT w l q fun kk W1 F1 r1 H1 e1 w1 l1 q1 => ?_
        cases kk with
        | true => exact ⟨F1, r1, env, W1, w1, l1, q1⟩
        | false => exact q1 F1 r1 H1 .refl w1
    · cases h
  exact { e := fun x h => (he x h).1, t := fun x h => (he x h).2.pt, w := fun x h => (he x h).2, a := fun x h => absurd h Bool.false_ne_true, i := fun x h => pi_no }
theorem sd_or {a b : IE} (ha : Sd T N a) (hb : Sd T N b) : Sd T N (.or a b) := by
  have he : ∀ {E sc k X ex}, XOk T E sc N k X → (chk T.n N (.or a b)).e sc ex = true → PE X ex (tI X.K T.G E (ev T.tb (.or a b)).e) ∧ PW X ex (tIT X.K T.G E (ev T.tb (.or a b)).t) := fun {E sc k X ex} x h => by
    simp only [chk, cE] at h
    split at h
    · obtain ⟨h1, h2⟩ := bool_and h
      refine ⟨PE.imp (pe_orT (ha.e x h1) (hb.e x h2)) fun σ H Q q => ?_, ?_⟩
      · obtain ⟨F, r, env, W, w, l, q⟩ := q
        refine Sd.tv isP w l q fun d W1 F1 r1 H1 v kk e1 w1 l1 p1 t1 q1 => ⟨kk, t1, ?_⟩
        cases kk with
        | false => exact ⟨F1, r1, env, W1, w1, l1, q1⟩
        | true => exact post_pure w1 p1 q1
      · have := pw_or (ha.t x h1) (hb.w x h2)
        refine ⟨fun wh pins s σ H Q I q => this.run wh pins s σ H Q I ?_⟩
        obtain ⟨F, r, env, W, w, l, q⟩ := q
        refine tIT.use isPT w l q fun kk W1 F1 r1 H1 e1 w1 l1 q1 => ?_
        cases kk with
        | false => exact ⟨F1, r1, env, W1, w1, l1, q1⟩
        | true => exact q1 F1 r1 H1 .refl w1
    · cases h
  exact { e := fun x h => (he x h).1, t := fun x h => (he x h).2.pt, w := fun x h => (he x h).2, a := fun x h => absurd h Bool.false_ne_true, i := fun x h => pi_no }
theorem sd_one {a : IE} (ha : Sd T N a) : Sd T N (.one a) where
  e := fun {E sc k X ex} x h => by
    simp only [chk, cE] at h
    split at h
    · exact pe_one (ha.e x h)
    · cases h
  t := fun {E sc k X ex} x h => by
    simp only [chk, cE] at h
    split at h
    · rename_i op y p
      cases op with
      | And => exact (pw_and1 (ha.t x h)).pt
      | Or => exact (pw_or1 (ha.t x h)).pt
    · cases h
  w := fun {E sc k X op vs pos} x h => by
    simp only [chk, cE] at h
    split at h
    · rename_i op y p e
      cases e
      cases op with
      | And => exact pw_and1 (ha.t x h)
      | Or => exact pw_or1 (ha.t x h)
    · cases h
  a := fun x h => absurd h Bool.false_ne_true
  i := fun x h => pi_no
theorem sd_not {a : IE} (ha : Sd T N a) : Sd T N (.not a) where
  e := fun {E sc k X ex} x h => by
    simp only [chk, cE] at h
    split at h
    · refine PE.imp (pe_notT (ha.e x h)) fun σ H Q q => ?_
      obtain ⟨F, r, env, W, w, l, q⟩ := q
      exact Sd.tv isP w l q fun d W1 F1 r1 H1 v kk e1 w1 l1 p1 t1 q1 => ⟨kk, t1, post_pure w1 rep_bl q1⟩
    · cases h
  t := fun {E sc k X ex} x h => by
    simp only [chk, cE] at h
    split at h
    · refine PT.imp (pt_not (ha.t x h)) fun σ H Q q => ?_
      obtain ⟨F, r, env, W, w, l, q⟩ := q
      exact tIT.use isPT w l q fun kk W1 F1 r1 H1 e1 w1 l1 q1 => q1 F1 r1 H1 .refl w1
    · cases h
  w := fun x h => absurd h Bool.false_ne_true
  a := fun x h => absurd h Bool.false_ne_true
  i := fun x h => pi_no
theorem sd_ife {c a b : IE} (hc : Sd T N c) (ha : Sd T N a) (hb : Sd T N b) : Sd T N (.ife c a b) := by
  have he : ∀ {E sc k X ex}, XOk T E sc N k X → (chk T.n N (.ife c a b)).e sc ex = true → PE X ex (tI X.K T.G E (ev T.tb (.ife c a b)).e) := fun {E sc k X ex} x h => by
    simp only [chk, cE] at h
    split at h
    · obtain ⟨h1, h2⟩ := bool_and h
      obtain ⟨h2, h3⟩ := bool_and h2
      refine PE.imp (pe_ifExp (hc.t x h1) (ha.e x h2) (hb.e x h3)) fun σ H Q q => ?_
      obtain ⟨F, r, env, W, w, l, q⟩ := q
      refine tIT.use isP w l q fun kk W1 F1 r1 H1 e1 w1 l1 q1 => ?_
      cases kk with
      | true => exact ⟨F1, r1, env, W1, w1, l1, q1⟩
      | false => exact ⟨F1, r1, env, W1, w1, l1, q1⟩
    · cases h
  exact { e := fun x h => he x h, t := fun x h => pt_no, w := fun x h => pw_no, a := fun x h => absurd h Bool.false_ne_true, i := fun x h => pi_plain (he x (bool_and h).1) }

/-! ### parts of a value -/
theorem ixEx {X : Cx} : IxR X (fun v u H Q => ∃ rd, IxR X rd ∧ rd v u H Q) := fun a b pins s σ H x y v u Q I rx ry ⟨rd, h, q⟩ hs => h a b pins s σ H x y v u Q I rx ry q hs
theorem slEx {X : Cx} : SlR X (fun v l u H Q => ∃ rd, SlR X rd ∧ rd v l u H Q) := fun pins s σ H x v vl vu lo hi sl Q I rx hs pl pu ⟨rd, h, q⟩ => h pins s σ H x v vl vu lo hi sl Q I rx hs pl pu q
theorem plainIx {b : Expr} (h : isSli b = false) : PlainIx b := by
  intro o i
  cases b <;> first | rfl | exact absurd h (by simp [isSli])
theorem sd_sub {a i : IE} (ha : Sd T N a) (hi : Sd T N i) : Sd T N (.sub a i) := by
  refine Sd.of rfl rfl (fun {E sc k X ex} x h => ?_) (fun {sc ex} h => ?_)
  · split at h
    · obtain ⟨h1, h2⟩ := bool_and h
      obtain ⟨h2, h3⟩ := bool_and h2
      refine PE.imp (pe_ix ixEx (ha.e x h2) (hi.e x h3) (plainIx (not_true h1))) fun σ H Q q => ?_
      obtain ⟨F, r, env, W, w, l, q⟩ := q
      refine tI.use isP w l q fun d1 W1 F1 r1 H1 v1 e1 w1 l1 p1 q1 => ?_
      refine tI.use isP w1 l1 q1 fun d2 W2 F2 r2 H2 v2 e2 w2 l2 p2 q2 => ?_
      exact pSub_ok w2 (p1.mono e2) p2 q2
    · cases h
  · split at h
    · rfl
    · cases h
/-- a part of a slice -/
def PostO (K : PySem.W.Frag) (G : Cls_) (E : XK) (Q : Option Int → Hp → Prop) (F : Addr → Prop) (r : List Addr) (H : Hp) : Res (Option Int) → Prop
  | .ok d W => ∀ (F' : Addr → Prop) (r' : List Addr) (H' : Hp), Ext F r H F' r' H' → RelW K G F' r' H' W → Q d H'
  | .exc c xs W => PostX K G E F r H c xs W
  | .no => False
theorem isPO {K : PySem.W.Frag} {G : Cls_} {Q : Option Int → Hp → Prop} : IsP K G E (PostO K G E Q) where
  no := fun _ _ _ h => h
  exc := fun _ _ _ _ _ _ h => h
  xce := fun _ _ _ _ _ _ h => h
  back := fun F r H F1 r1 H1 x hr e h => by
    cases x with
    | no => exact h
    | exc c xs W => exact PostX.back hr e h
    | ok d W => exact fun F' r' H' e' w => h F' r' H' (e.trans hr e') w
def tIO (K : PySem.W.Frag) (G : Cls_) (E : XK) (n : Bool) (ev : EvF D) : TO := fun σ H Q => ∃ F r env W, RelW K G F r H W ∧ RelE K G F r H env σ ∧ PostO K G E Q F r H (partE n (ev env W))
theorem po_part {i : IE} (hi : Sd T N i) {k : Nat} {X : Cx} {E : XK} {sc : Scope} {o : Option Expr} (x : XOk T E sc N k X) (h : chkP (chk T.n N i) i sc o = true) : PO X o (tIO X.K T.G E (isNonIE i) (ev T.tb i).e) := by
  cases o with
  | none =>
    have hn : i = .non := by
      have : isNonIE i = true := h
      cases i <;> first | rfl | cases this
    subst hn
    refine ⟨fun pins s σ H Q I q => ?_⟩
    obtain ⟨F, r, env, W, w, l, q⟩ := q
    exact po_none.run pins s σ H Q I (q F r H .refl w)
  | some e =>
    obtain ⟨h1, h2⟩ := bool_and h
    refine ⟨fun pins s σ H Q I q => ?_⟩
    refine (po_some (hi.e x h2)).run pins s σ H Q I ?_
    obtain ⟨F, r, env, W, w, l, q⟩ := q
    rw [not_true h1] at q
    refine tI.use isPO w l q fun d W1 F1 r1 H1 v e1 w1 l1 p1 q1 => ?_
    rw [if_neg Bool.false_ne_true] at q1
    cases d with
    | int i => exact ⟨i, p1.int, q1 F1 r1 H1 .refl w1⟩
    | _ => exact q1.elim
theorem tIO.use {X : Cx} {E : XK} {n : Bool} {ea : EvF D} {env : EnvD} {σ : L2.St} {W : Wd} {F : Addr → Prop} {r : List Addr} {H : Hp} {P : (Addr → Prop) → List Addr → Hp → Res α → Prop} {k : Option Int → Wd → Res α} {R : Option Int → Hp → Prop} (p : IsP X.K T.G E P) (w : RelW X.K T.G F r H W) (l : RelE X.K T.G F r H env σ) (h : P F r H ((partE n (ea env W)).bind k))
    (hk : ∀ d W1 F1 r1 H1, Ext F r H F1 r1 H1 → RelW X.K T.G F1 r1 H1 W1 → RelE X.K T.G F1 r1 H1 env σ → P F1 r1 H1 (k d W1) → R d H1) : tIO X.K T.G E n ea σ H R := by
  refine ⟨F, r, env, W, w, l, ?_⟩
  cases z : partE n (ea env W) with
  | no => rw [z] at h; exact (p.no _ _ _ h).elim
  | exc c xs W1 => rw [z] at h; exact p.exc _ _ _ _ _ _ h
  | ok d W1 =>
    rw [z] at h
    exact fun F1 r1 H1 e w1 => hk d W1 F1 r1 H1 e w1 (l.mono e) (p.back _ _ _ _ _ _ _ w1.rh e h)
theorem sd_sli {a l h : IE} (ha : Sd T N a) (hl : Sd T N l) (hh : Sd T N h) : Sd T N (.sli a l h) := by
  refine Sd.of rfl rfl (fun {E sc k X ex} x c => ?_) (fun {sc ex} h => ?_)
  · split at c
    · obtain ⟨h1, h2⟩ := bool_and c
      obtain ⟨h2, h3⟩ := bool_and h2
      refine PE.imp (pe_slice slEx (ha.e x h1) (po_part hl x h2) (po_part hh x h3)) fun σ H Q q => ?_
      obtain ⟨F, r, env, W, w, l', q⟩ := q
      refine tI.use isP w l' q fun d1 W1 F1 r1 H1 v1 e1 w1 l1 p1 q1 => ?_
      refine tIO.use isP w1 l1 q1 fun d2 W2 F2 r2 H2 e2 w2 l2 q2 => ?_
      refine tIO.use isP w2 l2 q2 fun d3 W3 F3 r3 H3 e3 w3 l3 q3 => ?_
      exact pSli_ok w3 ((p1.mono e2).mono e3) q3
    · cases c
  · split at h
    · rfl
    · cases h

/-! ### rows -/
theorem sd_nil : Sd T N .nil := by
  refine Sd.args (g := fun _ _ => false) rfl rfl (fun {E sc k X es} x h => ?_) fun x h => absurd h Bool.false_ne_true
  split at h
  · exact PA.imp pa_nil fun σ H Q q => by
      obtain ⟨F, r, env, W, w, l, q⟩ := q
      exact q F r H [] .refl w .nil'
  · cases h
theorem star_plain {e : Expr} {es : List Expr} {env : Env} (h : isSt e = false) : starEach (e :: es) env = (false, eval e env) :: starEach es env := by
  cases e <;> first | rfl | cases h
theorem star_all : ∀ {es : List Expr} {env : Env} {pos : Pos}, es.all (fun z => !isSt z) = true → (backTo pos (starEach es env)).any (·.1) = false
  | [], _, _, _ => rfl
  | e :: es, env, pos, h => by
    rw [List.all_cons] at h
    obtain ⟨h1, h2⟩ := bool_and h
    rw [star_plain (not_true h1)]
    exact star_all (es := es) (pos := pos) h2
theorem sd_cons {a b : IE} (ha : Sd T N a) (hb : Sd T N b) : Sd T N (.cons a b) := by
  refine Sd.args (g := fun _ _ => false) rfl rfl (fun {E sc k X es} x h => ?_) fun x h => absurd h Bool.false_ne_true
  split at h
  · obtain ⟨h1, h2⟩ := bool_and h
    obtain ⟨h2, h3⟩ := bool_and h2
    refine PA.imp (pa_cons (ha.e x h2) (hb.a x h3) (star_plain (not_true h1))) fun σ H Q q => ?_
    obtain ⟨F, r, env, W, w, l, q⟩ := q
    refine tI.use isPA w l q fun d1 W1 F1 r1 H1 v1 e1 w1 l1 p1 q1 => ?_
    refine tIA.use isPA w1 l1 q1 fun d2 W2 F2 r2 H2 v2 e2 w2 l2 p2 q2 => ?_
    exact q2 F2 r2 H2 (v1 :: v2) .refl w2 (.cons' (p1.mono e2) p2)
  · cases h

/-! ### the parts of an f-string -/
theorem sd_fpn : Sd T N .fpn := by
  refine Sd.args rfl rfl (fun x h => absurd h Bool.false_ne_true) (fun {E sc k X es} x h => ?_)
  split at h
  · refine ⟨[], .nil, fun acc σ H Q _ q => ?_⟩
    obtain ⟨F, r, env, W, w, l, q⟩ := q
    obtain ⟨ys, e, q⟩ := q F r H [] .refl w .nil'
    cases ys with
    | nil => exact q
    | cons y ys => cases e
  · cases h
theorem len_app (a b : Str) : (a ++ b).length = a.length + b.length := by
  show (a.cps ++ b.cps).size = _
  rw [Array.size_append]
  rfl
theorem sd_fpc {a b : IE} (ha : Sd T N a) (hb : Sd T N b) : Sd T N (.fpc a b) := by
  refine Sd.args rfl rfl (fun x h => absurd h Bool.false_ne_true) (fun {E sc k X es} x h => ?_)
  split at h
  · rename_i y ys
    obtain ⟨h2, h3⟩ := bool_and h
    obtain ⟨ts, pj, hq⟩ := hb.j x h3
    refine ⟨_, .cons (ha.e x h2) pj, fun acc σ H Q hz q => ?_⟩
    obtain ⟨F, r, env, W, w, l, q⟩ := q
    refine tI.use isPA w l q fun d1 W1 F1 r1 H1 v1 e1 w1 l1 p1 q1 => ?_
    split at q1
    · rename_i z
      split at q1
      · rename_i hl
        have hl := Nat.le_of_ble_eq_true hl
        have hlen : (⟨z.toArray⟩ : Str).length = z.length := by simp [Str.length]
        rw [List.length_cons] at hz
        refine ⟨⟨z.toArray⟩, p1.str, by rw [len_app, hlen]; omega, hq _ _ _ _ (by rw [len_app, hlen]; omega) ?_⟩
        refine tIA.use isPA w1 l1 q1 fun d2 W2 F2 r2 H2 v2 e2 w2 l2 p2 q2 => ?_
        obtain ⟨us, e, q⟩ := q2 F2 r2 H2 (.str ⟨z.toArray⟩ :: v2) .refl w2 (.cons' rep_str p2)
        cases us with
        | nil => cases e
        | cons u us =>
          rw [List.map_cons] at e
          injection e with e1 e2
          injection e1 with e1
          subst e1
          exact ⟨us, e2, q⟩
      · exact q1.elim
    · exact q1.elim
  · cases h
theorem foldl_str : ∀ (ys : List (List Nat)) (acc : List Nat), (ys.map toStr).foldl (· ++ ·) ⟨acc.toArray⟩ = ⟨(acc ++ ys.flatten).toArray⟩
  | [], acc => by simp
  | y :: ys, acc => by
    have : (⟨acc.toArray⟩ : Str) ++ toStr y = ⟨(acc ++ y).toArray⟩ := by
      show (⟨acc.toArray ++ y.toArray⟩ : Str) = _
      simp
    rw [List.map_cons, List.foldl_cons, this, foldl_str ys]
    simp
theorem sd_fsp {a : IE} (ha : Sd T N a) : Sd T N (.fsp a) := by
  refine Sd.of rfl rfl (fun {E sc k X ex} x h => ?_) (fun {sc ex} h => ?_)
  · split at h
    · rename_i y z zs p
      obtain ⟨h1, h2⟩ := bool_and h
      obtain ⟨ts, pj, hq⟩ := ha.j x h2
      refine PE.imp (pe_joined pj) fun σ H Q q => ?_
      obtain ⟨F, r, env, W, w, l, q⟩ := q
      have h1 := Nat.le_of_ble_eq_true h1
      refine hq _ _ _ _ (by rw [sizeLine_eq]; simp only [List.length_cons]; show 0 + _ ≤ _; omega) ?_
      refine tIA.use isP w l q fun d1 W1 F1 r1 H1 v1 e1 w1 l1 p1 q1 => ?_
      split at q1
      · rename_i us hu
        refine ⟨us.map toStr, strs_v hu p1, ?_⟩
        have := foldl_str us []
        rw [List.nil_append] at this
        rw [show Str.empty = (⟨([] : List Nat).toArray⟩ : Str) from rfl, this]
        exact post_pure w1 rep_str q1
      · exact q1.elim
    · cases h
  · split at h
    · rfl
    · cases h
theorem sd_star {a b : IE} (ha : Sd T N a) (hb : Sd T N b) : Sd T N (.star a b) := by
  refine Sd.args (g := fun _ _ => false) rfl rfl (fun {E sc k X es} x h => ?_) fun x h => absurd h Bool.false_ne_true
  split at h
  · obtain ⟨h2, h3⟩ := bool_and h
    refine PA.imp (StX.pa_star (ha.e x h2) (hb.a x h3)) fun σ H Q q => ?_
    obtain ⟨F, r, env, W, w, l, q⟩ := q
    refine tI.use isPA w l q fun d1 W1 F1 r1 H1 v1 e1 w1 l1 p1 q1 => ?_
    cases z : seq? W1 d1 with
    | none => rw [z] at q1; exact q1.elim
    | some ys =>
      rw [z] at q1
      obtain ⟨p, vs, e, s, t⟩ := seq_v w1 p1 z
      refine ⟨p, vs, e, s.symm, ?_⟩
      refine tIA.use isPA w1 l1 q1 fun d2 W2 F2 r2 H2 v2 e2 w2 l2 p2 q2 => ?_
      exact q2 F2 r2 H2 (vs ++ v2) .refl w2 ((RepL.mono e2 t).append p2)
  · cases h
theorem sd_tup {a : IE} (ha : Sd T N a) : Sd T N (.tup a) := by
  refine Sd.of rfl rfl (fun {E sc k X ex} x h => ?_) (fun {sc ex} h => ?_)
  · split at h
    · refine PE.imp (pe_tup (ha.a x h)) fun σ H Q q => ?_
      obtain ⟨F, r, env, W, w, l, q⟩ := q
      refine tIA.use isP w l q fun d1 W1 F1 r1 H1 v1 e1 w1 l1 p1 q1 => ?_
      split at q1
      · rename_i z
        exact ⟨by rw [← p1.length]; exact fits_le z, post_tup w1 p1 q1⟩
      · exact q1.elim
    · cases h
  · split at h
    · rfl
    · cases h
theorem sd_lst {a : IE} (ha : Sd T N a) : Sd T N (.lst a) := by
  refine Sd.of rfl rfl (fun {E sc k X ex} x h => ?_) (fun {sc ex} h => ?_)
  · split at h
    · refine PE.imp (pe_lst (ha.a x h)) fun σ H Q q => ?_
      obtain ⟨F, r, env, W, w, l, q⟩ := q
      refine tIA.use isP w l q fun d1 W1 F1 r1 H1 v1 e1 w1 l1 p1 q1 => ?_
      split at q1
      · rename_i z
        exact ⟨by rw [← p1.length]; exact fits_le z, post_lst w1 p1 q1⟩
      · exact q1.elim
    · cases h
  · split at h
    · rfl
    · cases h
theorem sd_non : Sd T N .non := Sd.of (evf := fun _ W => .ok .non W) rfl rfl (fun {E sc k X ex} x h => absurd h Bool.false_ne_true) (fun h => absurd h Bool.false_ne_true)
end VI
-- VJ
set_option Elab.async false
set_option linter.all false
set_option maxRecDepth 100000
set_option maxHeartbeats 2000000
namespace VI
open PySem PySem.Spec PyProof.Rows L2
variable {T : Tab} {N : List Str} {E : XK}

/-! ### builtins -/
theorem boot_b (b : Blt) : bootBuiltins (bltN b) = some (bltV b) := by cases b <;> decide +kernel
theorem blt_form (b : Blt) : (∃ id, bltV b = .builtin id) ∨ ∃ id, bltV b = .type id := by
  cases b <;> first | exact .inl ⟨_, rfl⟩ | exact .inr ⟨_, rfl⟩
theorem callEx {X : Cx} {f : Value} : CallR X f (fun vs H Q => ∃ rd, CallR X f rd ∧ rd vs H Q) := fun pins s σ H xs us Q I r ⟨rd, h, q⟩ => h pins s σ H xs us Q I r q
theorem pe_callV {X : Cx} {f : Value} {x : Str} {es : List Expr} {e : Expr} {r : List V → Hp → VK → Prop} {t : TA} {p pos : Pos} (hf : (∃ id, f = .builtin id) ∨ ∃ id, f = .type id) (hc : CallR X f r) (hg : Gl X x) (hm : X.mg x = none) (hv : bootBuiltins x = some f) (ha : PA X (e :: es) t) (hn : x ≠ "__name__") (hdb : (x == ("__debug__" : Str)) = false)
    (he : starEach (e :: es) X.env = (false, eval e X.env) :: starEach es X.env) (hpl : (backTo pos (starEach es X.env)).any (·.1) = false) : PE X (.Call (.Name x p) (e :: es) [] pos) (tCB r t) := by
  rcases hf with ⟨id, rfl⟩ | ⟨id, rfl⟩
  · exact pe_callB hc hg hm hv ha hn hdb he hpl
  · exact pe_callTy hc hg hm hv ha hn hdb he hpl
theorem sd_blt (b : Blt) {a : IE} (ha : Sd T N a) : Sd T N (.blt b a) := by
  refine Sd.of rfl rfl (fun {E sc k X ex} x h => ?_) (fun {sc ex} h => ?_)
  · split at h
    · obtain ⟨h1, h⟩ := bool_and h
      obtain ⟨h2, h⟩ := bool_and h
      obtain ⟨h3, h⟩ := bool_and h
      obtain ⟨h4, h⟩ := bool_and h
      obtain ⟨h5, h6⟩ := bool_and h
      obtain ⟨g1, g2, g3⟩ := glB_ok x.hs h3
      have hx := of_decide_eq_true h1
      refine PE.imp (pe_callV (blt_form b) callEx g1 (x.fx.fre _ (of_decide_eq_true h2)) (by rw [hx]; exact boot_b b) (ha.a x h6) g3 g2 (star_plain (not_true h4)) (star_all h5)) fun σ H Q q => ?_
      obtain ⟨F, r, env, W, w, l, q⟩ := q
      refine tIA.use isP w l q fun d1 W1 F1 r1 H1 v1 e1 w1 l1 p1 q1 => ?_
      exact pBlt_ok x.calm w1 p1 q1
    · cases h
  · split at h
    · rfl
    · cases h
theorem base_plain {e : Expr} {nm : Str} {env : Env} {w : Sem Value} (h : baseOk e = true) : attributeBase e nm env w = w := by
  cases e <;> try rfl
  rename_i f as ks p
  cases f <;> try rfl
  cases as <;> try rfl
  cases ks <;> try rfl
  exact absurd h Bool.false_ne_true
theorem sd_join {a b : IE} (ha : Sd T N a) (hb : Sd T N b) : Sd T N (.join a b) := by
  refine Sd.of rfl rfl (fun {E sc k X ex} x h => ?_) (fun {sc ex} h => ?_)
  · split at h
    · obtain ⟨h1, h⟩ := bool_and h
      obtain ⟨h2, h⟩ := bool_and h
      obtain ⟨h3, h⟩ := bool_and h
      obtain ⟨h4, h⟩ := bool_and h
      obtain ⟨h5, h6⟩ := bool_and h
      cases of_decide_eq_true h1
      refine PE.imp (pe_join (ha.e x h5) (hb.e x h6) (star_plain (not_true h3)) (base_plain h2) h4) fun σ H Q q => ?_
      obtain ⟨F, r, env, W, w, l, q⟩ := q
      refine tI.use isP w l q fun d1 W1 F1 r1 H1 v1 e1 w1 l1 p1 q1 => ?_
      split at q1
      · refine ⟨⟨_, p1.str⟩, ?_⟩
        refine tI.use isP w1 l1 q1 fun d2 W2 F2 r2 H2 v2 e2 w2 l2 p2 q2 => ?_
        obtain ⟨z, p, ys, e, u, s, sz, q⟩ := pJoin_ok w2 (p1.mono e2) p2 q2
        exact ⟨z, p, ys, e, by rw [u], s, sz, q⟩
      · exact q1.elim
    · cases h
  · split at h
    · rfl
    · cases h

/-! ### calls -/
section
variable {X : Cx} {k : Nat} {f : Addr} {sp : Sp} {x : Str} {e : Expr} {es : List Expr} {t : TA} {p pos : Pos}
theorem pe_callG (F : FnR X.prog X.w X.K X.mg X.base (CX X.prog X.w) k f sp) (hr : Room k X.A) (hk : PySem.W.keepIn X.K (.ref f) = true) (hg : Gl X x) (hm : X.mg x = some (.ref f)) (hx : Passes (CX X.prog X.w) X E) (ha : PA X (e :: es) t) (hd : (x == ("__debug__" : Str)) = false)
    (hs : isSt e = false) : PE X (.Call (.Name x p) (e :: es) [] pos) (fun σ H Q => t σ H fun vs H1 => sp vs H1 Q E) := by
  refine ⟨fun pins s σ H Q I h => ?_⟩
  refine wpAny_Call_Name_kw (ld_glob I hg hm ?_ hd)
  have he := star_plain (es := es) (env := X.env) hs
  cases z : (backTo pos (starEach es X.env)).any (·.1) with
  | true =>
    refine PySem.W.callWith_S2 (h₀ := X.base) I.ok.mod.kin hk (thn (ha.run pos pins s σ H _ I h) fun us s1 ⟨vs, H1, I1, r, q⟩ => ⟨I1.kIn, ?_⟩) he z
    exact wpAny_call (run_fnR F hr hx I1 r q)
  | false =>
    refine PySem.W.callWith_K (h₀ := X.base) I.ok.mod.kin hk (thn (ha.run pos pins s σ H _ I h) fun us s1 ⟨vs, H1, I1, r, q⟩ => ⟨I1.kIn, ?_⟩) he z
    exact wpAny_call (run_fnR F hr hx I1 r q)
theorem pe_callG0 (F : FnR X.prog X.w X.K X.mg X.base (CX X.prog X.w) k f sp) (hr : Room k X.A) (hk : PySem.W.keepIn X.K (.ref f) = true) (hg : Gl X x) (hm : X.mg x = some (.ref f)) (hx : Passes (CX X.prog X.w) X E) (hd : (x == ("__debug__" : Str)) = false) :
    PE X (.Call (.Name x p) [] [] pos) (fun σ H Q => sp [] H Q E) := by
  refine ⟨fun pins s σ H Q I h => ?_⟩
  refine wpAny_Call_Name_kw (ld_glob I hg hm ?_ hd)
  exact PySem.W.callWith_K0 (first := []) I.kIn hk (wpAny_call (run_fnR (us := []) F hr hx I .nil h))
end
theorem bne_empty {x : Str} (h : (!(x == "")) = true) : x ≠ "" := fun e => by
  have := not_true h
  rw [e] at this
  exact absurd this (by decide)
theorem nil_of {ir : IE} (h : isNilIE ir = true) : ir = .nil := by cases ir <;> first | rfl | cases h
theorem sd_call (f : Nat) {a : IE} (ha : Sd T N a) : Sd T N (.call f a) := by
  refine Sd.of rfl rfl (fun {E sc k X ex} x h => ?_) (fun {sc ex} h => ?_)
  · split at h
    · rename_i y p ys pos
      obtain ⟨h1, h⟩ := bool_and h
      obtain ⟨h2, h⟩ := bool_and h
      obtain ⟨h3, h⟩ := bool_and h
      obtain ⟨h4, h5⟩ := bool_and h
      obtain ⟨g1, g2, g3⟩ := glB_ok x.hs h3
      obtain ⟨m1, m2⟩ := x.fx.fnk f y (of_decide_eq_true h1) (bne_empty h2)
      cases ys with
      | nil =>
        cases nil_of h5
        refine PE.imp (pe_callG0 (x.cls f) (x.room.mono (Nat.le_succ _)) m2 g1 m1 x.pass g2) fun σ H Q q => ?_
        obtain ⟨F, r, env, W, w, l, q⟩ := q
        exact ⟨F, r, W, [], w, .nil', q⟩
      | cons e es =>
        refine PE.imp (pe_callG (x.cls f) (x.room.mono (Nat.le_succ _)) m2 g1 m1 x.pass (ha.a x h4) g2 (not_true h5)) fun σ H Q q => ?_
        obtain ⟨F, r, env, W, w, l, q⟩ := q
        refine tIA.use isP w l q fun d1 W1 F1 r1 H1 v1 e1 w1 l1 p1 q1 => ?_
        exact ⟨F1, r1, W1, d1, w1, p1, q1⟩
    · cases h
  · split at h
    · rfl
    · cases h
theorem sd_calS (f : Nat) {a : IE} (ha : Sd T N a) : Sd T N (.calS f a) := by
  refine Sd.of rfl rfl (fun {E sc k X ex} x h => ?_) (fun {sc ex} h => ?_)
  · split at h
    · rename_i y p ys sp pos
      obtain ⟨h1, h⟩ := bool_and h
      obtain ⟨h2, h⟩ := bool_and h
      obtain ⟨h3, h4⟩ := bool_and h
      obtain ⟨g1, g2, g3⟩ := glB_ok x.hs h3
      obtain ⟨m1, m2⟩ := x.fx.fnk f y (of_decide_eq_true h1) (bne_empty h2)
      refine PE.imp (StX.pe_callS1 (x.cls f) (x.room.mono (Nat.le_succ _)) m2 g1 m1 x.pass (ha.e x h4) g2) fun σ H Q q => ?_
      obtain ⟨F, r, env, W, w, l, q⟩ := q
      refine tI.use isP w l q fun d1 W1 F1 r1 H1 v1 e1 w1 l1 p1 q1 => ?_
      cases z : seq? W1 d1 with
      | none => rw [z] at q1; exact q1.elim
      | some ys =>
        rw [z] at q1
        obtain ⟨p, vs, e, s, t⟩ := seq_v w1 p1 z
        exact ⟨p, vs, e, s.symm, F1, r1, W1, ys, w1, t, q1⟩
    · cases h
  · split at h
    · rfl
    · cases h

/-! ### instances made -/
theorem mkI_ok {X : Cx} {F : Addr → Prop} {r : List Addr} {H : Hp} {W : Wd} {c : Nat} {fz : Bool} {ds : List D} {vs : List V} {Q : VK} (w : RelW X.K T.G F r H W) (h : RepL X.K T.G F r H ds vs) (q : Post X.K T.G E Q F r H (mkI T.tb c fz ds W)) :
    ∀ y dx, H y = Option.none → H dx = Option.none → dx ≠ y → spR X.K T.G (T.tb.cl (T.tb.ini c)) (V.ref y :: vs) (upd (upd H dx (.own y)) y (.ins (T.G.clsA c) dx [])) (fun v H2 => v = .non ∧ Q (.ref y) H2) E := by
  intro y dx hy hdx ne
  have e0 := ext_upd w hdx (o := .own y)
  have w0 := relW_upd w hdx (o := .own y)
  have hy0 : upd H dx (.own y) y = none := by rw [upd_ne (Ne.symm ne)]; exact hy
  obtain ⟨e1, w1, p1⟩ := new_hdi (G := T.G) (c := c) (dx := dx) w0 hy0
  have e := e0.trans w0.rh e1
  refine ⟨_, _, _, _, w1, .cons' p1 (RepL.mono e h), ?_⟩
  have q1 := isP.back _ _ _ _ _ _ _ w1.rh e q
  unfold mkI at q1
  cases z : T.tb.cl (T.tb.ini c) (D.hd W.length :: ds) (W ++ [.ins c []]) with
  | no => rw [z] at q1; exact q1
  | exc cc xs W1 => rw [z] at q1; exact q1
  | ok d W1 =>
    rw [z] at q1
    intro F' r' H' v e' w' pv
    simp only [Res.bind] at q1
    split at q1
    · refine ⟨pv.non, ?_⟩
      have pr := p1.mono e'
      have q2 := isP.back _ _ _ _ _ _ _ w'.rh e' q1
      cases fz with
      | true => exact frz_ok w' pr q2
      | false => exact post_pure w' pr q2
    · exact q1.elim
theorem sd_make (c : Nat) (fz : Bool) {a : IE} (ha : Sd T N a) : Sd T N (.make c fz a) := by
  refine Sd.of rfl rfl (fun {E sc k X ex} x h => ?_) (fun {sc ex} h => ?_)
  · split at h
    · rename_i y p ys pos
      obtain ⟨h1, h⟩ := bool_and h
      obtain ⟨h2, h⟩ := bool_and h
      obtain ⟨h3, h⟩ := bool_and h
      obtain ⟨h4, h5⟩ := bool_and h
      obtain ⟨g1, g2, g3⟩ := glB_ok x.hs h3
      obtain ⟨m1, M⟩ := x.fx.mak c y (of_decide_eq_true h1) (bne_empty h2)
      have go : ∀ {t : TA} {Q : VK} {pins : List (Addr × Obj)} {s : Shared} {σ : L2.St} {H : Hp} {us : List Value} {vs : List V}, Inv X pins σ H s → Vals vs us → (∃ F r W ds, RelW X.K T.G F r H W ∧ RepL X.K T.G F r H ds vs ∧ Post X.K T.G E Q F r H (mkI T.tb c fz ds W)) → wpAny (model X.prog X.w) X.A (call (.ref (T.G.clsA c)) us) (EP X pins σ Q) X.xe s := by
        rintro t Q pins s σ H us vs I r ⟨F, rr, W, ds, w, p, q⟩
        exact StX.run_makeR M (x.cls _) x.room x.pass I r (mkI_ok w p q)
      cases ys with
      | nil =>
        cases nil_of h5
        refine ⟨fun pins s σ H Q I q => wpAny_Call_Name_kw (ld_glob I g1 m1 ?_ g2)⟩
        obtain ⟨F, r, env, W, w, l, q⟩ := q
        exact PySem.W.callWith_K0 (first := []) I.kIn M.kp (go (t := tNil) (us := []) I .nil ⟨F, r, W, [], w, .nil', q⟩)
      | cons e es =>
        have he := star_plain (es := es) (env := X.env) (not_true h5)
        refine ⟨fun pins s σ H Q I q => wpAny_Call_Name_kw (ld_glob I g1 m1 ?_ g2)⟩
        obtain ⟨F, r, env, W, w, l, q⟩ := q
        have pa : tIA X.K T.G E (ev T.tb a).a σ H (fun vs H1 => ∃ F r W ds, RelW X.K T.G F r H1 W ∧ RepL X.K T.G F r H1 ds vs ∧ Post X.K T.G E Q F r H1 (mkI T.tb c fz ds W)) :=
          tIA.use isP w l q fun d1 W1 F1 r1 H1 v1 e1 w1 l1 p1 q1 => ⟨F1, r1, W1, d1, w1, p1, q1⟩
        cases z : (backTo pos (starEach es X.env)).any (·.1) with
        | true => exact PySem.W.callWith_S2 (h₀ := X.base) I.ok.mod.kin M.kp (thn ((ha.a x h4).run pos pins s σ H _ I pa) fun us s1 ⟨vs, H1, I1, r, q⟩ => ⟨I1.kIn, go (t := tNil) I1 r q⟩) he z
        | false => exact PySem.W.callWith_K (h₀ := X.base) I.ok.mod.kin M.kp (thn ((ha.a x h4).run pos pins s σ H _ I pa) fun us s1 ⟨vs, H1, I1, r, q⟩ => ⟨I1.kIn, go (t := tNil) I1 r q⟩) he z
    · cases h
  · split at h
    · rfl
    · cases h
theorem sd_makS (c : Nat) (fz : Bool) {a : IE} (ha : Sd T N a) : Sd T N (.makS c fz a) := by
  refine Sd.of rfl rfl (fun {E sc k X ex} x h => ?_) (fun {sc ex} h => ?_)
  · split at h
    · rename_i y p ys sp pos
      obtain ⟨h1, h⟩ := bool_and h
      obtain ⟨h2, h⟩ := bool_and h
      obtain ⟨h3, h4⟩ := bool_and h
      obtain ⟨g1, g2, g3⟩ := glB_ok x.hs h3
      obtain ⟨m1, M⟩ := x.fx.mak c y (of_decide_eq_true h1) (bne_empty h2)
      refine ⟨fun pins s σ H Q I q => wpAny_Call_Name_kw (ld_glob I g1 m1 ?_ g2)⟩
      obtain ⟨F, r, env, W, w, l, q⟩ := q
      have pa : tI X.K T.G E (ev T.tb a).e σ H (fun v H1 => ∃ p vs, v = .ref p ∧ (SqT X.K H1 p vs ∨ SqL X.K H1 p vs) ∧ ∃ F r W ds, RelW X.K T.G F r H1 W ∧ RepL X.K T.G F r H1 ds vs ∧ Post X.K T.G E Q F r H1 (mkI T.tb c fz ds W)) := by
        refine tI.use isP w l q fun d1 W1 F1 r1 H1 v1 e1 w1 l1 p1 q1 => ?_
        cases z : seq? W1 d1 with
        | none => rw [z] at q1; exact q1.elim
        | some ys =>
          rw [z] at q1
          obtain ⟨p, vs, e, s, t⟩ := seq_v w1 p1 z
          exact ⟨p, vs, e, s.symm, F1, r1, W1, ys, w1, t, q1⟩
      refine PySem.W.callWith_S (h₀ := X.base) (first := []) I.ok.mod.kin M.kp (thn ((ha.e x h4).run pins s σ H _ I pa) fun v s1 ⟨y, H1, I1, ry, p, vs, ey, hx, q⟩ => ?_)
      subst ey
      obtain rfl : v = Value.ref p := ry
      refine StX.star_any I1 hx fun us s2 I2 rv => ⟨I2.kIn, ?_⟩
      obtain ⟨F, rr, W, ds, w, p, q⟩ := q
      exact StX.run_makeR M (x.cls _) x.room x.pass I2 rv (mkI_ok w p q)
    · cases h
  · split at h
    · rfl
    · cases h
end VI
-- VK
set_option Elab.async false
set_option linter.all false
set_option maxRecDepth 100000
set_option maxHeartbeats 2000000
namespace VI
open PySem PySem.Spec PyProof.Rows L2
variable {T : Tab} {N : List Str} {E : XK}

/-! ### frozen, laid -/
theorem sd_frz {a : IE} (ha : Sd T N a) : Sd T N (.frz a) := by
  refine Sd.of rfl rfl (fun {E sc k X ex} x h => ?_) (fun {sc ex} h => (bool_and h).1)
  obtain ⟨h1, h2⟩ := bool_and h
  refine PE.imp (ha.e x h2) fun σ H Q q => ?_
  obtain ⟨F, r, env, W, w, l, q⟩ := q
  exact tI.use isP w l q fun d1 W1 F1 r1 H1 v1 e1 w1 l1 p1 q1 => frz_ok w1 p1 q1
theorem post_hdl {X : Cx} {F : Addr → Prop} {r : List Addr} {H : Hp} {W : Wd} {xs : List D} {vs : List V} {Q : VK} (w : RelW X.K T.G F r H W) (t : RepL X.K T.G F r H xs vs) (q : Post X.K T.G E Q F r H (.ok (.hd W.length) (W ++ [.lst xs]))) : ∀ p, H p = none → Q (.ref p) (upd H p (.lst vs)) := fun p hp => by
  obtain ⟨e, w1, p1⟩ := new_hdl w hp t
  exact q _ _ _ _ e w1 p1
theorem pAdm_ok {X : Cx} {F : Addr → Prop} {r : List Addr} {H : Hp} {W : Wd} {a b : VI.D} {u v : V} {E : XK} {Q : VK} (w : RelW X.K T.G F r H W) (ha : Rep X.K T.G F r H a v) (hb : Rep X.K T.G F r H b u) (q : Post X.K T.G E Q F r H (pAdm W a b)) : ∃ rd, OpR X (binaryOp .Add) rd ∧ rd v u H Q := by
  unfold pAdm at q
  split at q
  · rename_i x y h1 h2
    obtain ⟨p1, vs, e1, s1, t1⟩ := look_lst w ha h1
    obtain ⟨p2, ws, e2, s2, t2⟩ := look_lst w hb h2
    split at q
    · rename_i hz
      exact ⟨_, op_cat, p1, p2, vs, ws, e1, e2, s1, s2, by rw [← t1.length, ← t2.length]; exact fits_le hz, post_hdl w (t1.append t2) q⟩
    · exact q.elim
  · exact q.elim
theorem sd_adm {a b : IE} (ha : Sd T N a) (hb : Sd T N b) : Sd T N (.adm a b) := by
  refine Sd.of rfl rfl (fun {E sc k X ex} x h => ?_) (fun {sc ex} h => ?_)
  · split at h
    · obtain ⟨h1, h⟩ := bool_and h
      obtain ⟨h2, h3⟩ := bool_and h
      rw [of_decide_eq_true h1]
      exact PE.imp (pe_op opEx (ha.e x h2) (hb.e x h3)) (ti_op fun w p q => pAdm_ok w p q)
    · cases h
  · split at h
    · rfl
    · cases h
theorem sd_mls {a : IE} (ha : Sd T N a) : Sd T N (.mls a) := by
  refine Sd.of rfl rfl (fun {E sc k X ex} x h => ?_) (fun {sc ex} h => ?_)
  · split at h
    · refine PE.imp (pe_lst (ha.a x h)) fun σ H Q q => ?_
      obtain ⟨F, r, env, W, w, l, q⟩ := q
      refine tIA.use isP w l q fun d1 W1 F1 r1 H1 v1 e1 w1 l1 p1 q1 => ?_
      split at q1
      · rename_i z
        exact ⟨by rw [← p1.length]; exact fits_le z, post_hdl w1 p1 q1⟩
      · exact q1.elim
    · cases h
  · split at h
    · rfl
    · cases h
theorem sd_mli {a : IE} (ha : Sd T N a) : Sd T N (.mli a) := by
  refine Sd.of rfl rfl (fun {E sc k X ex} x h => ?_) (fun {sc ex} h => ?_)
  · split at h
    · obtain ⟨h1, h⟩ := bool_and h
      obtain ⟨h2, h⟩ := bool_and h
      obtain ⟨h3, h⟩ := bool_and h
      obtain ⟨h4, h5⟩ := bool_and h
      obtain ⟨g1, g2, g3⟩ := glB_ok x.hs h3
      have hx := of_decide_eq_true h1
      have hs := star_plain (es := []) (env := X.env) (not_true h4)
      refine PE.imp (pe_callV (f := .type "list") (.inr ⟨_, rfl⟩) callEx g1 (x.fx.fre _ (of_decide_eq_true h2)) (by rw [hx]; exact boot_b .list) (pa_cons (ha.e x h5) pa_nil hs) g3 g2 hs rfl) fun σ H Q q => ?_
      obtain ⟨F, r, env, W, w, l, q⟩ := q
      refine tI.use isP w l q fun d1 W1 F1 r1 H1 v1 e1 w1 l1 p1 q1 => ?_
      cases z : seq? W1 d1 with
      | none => rw [z] at q1; exact q1.elim
      | some xs =>
        rw [z] at q1
        obtain ⟨p, vs, e, s, t⟩ := seq_v w1 p1 z
        exact ⟨_, call_list_of, p, vs, by rw [e], s, post_hdl w1 t q1⟩
    · cases h
  · split at h
    · rfl
    · cases h

/-! ### methods, attributes -/
theorem lookup_zip_none : ∀ {ks : List Str} {vs : List V} {x : Str}, x ∉ ks → (ks.zip vs).lookup x = none
  | [], _, _, _ => rfl
  | _ :: _, [], _, _ => rfl
  | k :: ks, v :: vs, x, h => by
    rw [List.zip_cons_cons, List.lookup_cons]
    have : (x == k) = false := by
      rw [beq_eq_false_iff_ne]
      exact fun e => h (by rw [e]; exact List.mem_cons_self)
    rw [this]
    exact lookup_zip_none fun z => h (List.mem_cons_of_mem _ z)
theorem lookup_zip_some : ∀ {ks : List Str} {vs : List V} {x : Str} {i : Nat} {v : V}, ks.Nodup → ks[i]? = some x → vs[i]? = some v → (ks.zip vs).lookup x = some v
  | [], _, _, _, _, _, h, _ => by simp at h
  | _ :: _, [], _, _, _, _, _, h => by simp at h
  | k :: ks, u :: vs, x, 0, v, nd, h, h' => by
    simp at h h'
    subst h h'
    rw [List.zip_cons_cons, List.lookup_cons, beq_self_eq_true]
  | k :: ks, u :: vs, x, i + 1, v, nd, h, h' => by
    simp at h h'
    rw [List.nodup_cons] at nd
    rw [List.zip_cons_cons, List.lookup_cons]
    have hm : x ∈ ks := List.mem_of_getElem? h
    have : (x == k) = false := by
      rw [beq_eq_false_iff_ne]
      exact fun e => nd.1 (by rw [← e]; exact hm)
    rw [this]
    exact lookup_zip_some nd.2 h h'
theorem sd_att (m : Nat) {a : IE} (ha : Sd T N a) : Sd T N (.att m a) := by
  refine Sd.of rfl rfl (fun {E sc k X ex} x h => ?_) (fun {sc ex} h => ?_)
  · split at h
    · obtain ⟨h1, h⟩ := bool_and h
      obtain ⟨h2, h3⟩ := bool_and h
      refine PE.imp (pe_fld (ha.e x h3) (base_plain h2)) fun σ H Q q => ?_
      obtain ⟨F, r, env, W, w, l, q⟩ := q
      refine tI.use isP w l q fun d1 W1 F1 r1 H1 v1 e1 w1 l1 p1 q1 => ?_
      split at q1
      · rename_i c xs hl
        obtain ⟨p, dx, vs, e, hH, t⟩ := look_ins w1 p1 hl
        split at q1
        · rename_i i hi
          split at q1
          · rename_i d hd
            obtain ⟨nm, m1, m2, m3, m4, m5⟩ := x.fx.cls c m i hi
            rw [of_decide_eq_true h1] at m1
            cases m1
            obtain ⟨v, hv, pv⟩ := t.get hd
            exact ⟨p, _, dx, _, v, e, hH, m2, m3, lookup_zip_some m5 m4 hv, post_pure w1 pv q1⟩
          · exact q1.elim
        · exact q1.elim
      · exact q1.elim
    · cases h
  · split at h
    · rfl
    · cases h
theorem kw_nil (env : Env) (pos : Pos) : backToKw pos (keywordEach [] env) = [] := rfl
theorem star_all2 : ∀ {es : List Expr} {env : Env} {pos : Pos}, es.all (fun z => !isSt z) = true → (backTo pos (starEach es env)).all (fun x => !x.1) = true
  | [], _, _, _ => rfl
  | e :: es, env, pos, h => by
    rw [List.all_cons] at h
    obtain ⟨h1, h2⟩ := bool_and h
    rw [star_plain (not_true h1)]
    exact star_all2 (es := es) (pos := pos) h2
theorem meth_tree {o : Expr} {name : Str} {apos pos : Pos} {args : List Expr} {env : Env} (hb : baseOk o = true) (hl : (apos.endLine == pos.line) = true) (hn : Nat.blt args.length 30 = true) (hs : args.all (fun z => !isSt z) = true) :
    eval (.Call (.Attribute o name apos) args [] pos) env = (do
      let ov ← eval o env
      standAt apos.atName
      let (f, first) ← holding [ov] (getMethod ov name (do return (← importBound o env).getD true))
      callWith pos f first (backTo pos (starEach args env)) (backToKw pos (keywordEach [] env))) := by
  rw [arm_eval_Call, base_plain hb]
  have hf : methodCallForm (args.length + ([] : List Keyword).length) (backTo pos (starEach args env)) (backToKw pos (keywordEach [] env)) = true := by
    unfold methodCallForm
    rw [star_all2 hs, kw_nil]
    have := Nat.le_of_ble_eq_true hn
    simp
    omega
  unfold methodCall
  rw [hf]
  unfold calleeOf methodCallPos
  rw [hl]
  rfl
theorem sd_meth (m : Nat) {a es : IE} (ha : Sd T N a) (hs : Sd T N es) : Sd T N (.meth m a es) := by
  refine Sd.of rfl rfl (fun {E sc k X ex} x h => ?_) (fun {sc ex} h => ?_)
  · split at h
    · rename_i o nm apos ys pos
      obtain ⟨h1, h⟩ := bool_and h
      obtain ⟨h2, h⟩ := bool_and h
      obtain ⟨h3, h⟩ := bool_and h
      obtain ⟨h4, h⟩ := bool_and h
      obtain ⟨h5, h⟩ := bool_and h
      obtain ⟨h6, h⟩ := bool_and h
      obtain ⟨h7, h8⟩ := bool_and h
      refine ⟨fun pins s σ H Q I q => methcall_of (ha.e x h7) I (?_ : tI X.K T.G E (ev T.tb a).e σ H _) (meth_tree h2 h3 h4 h5)⟩
      obtain ⟨F, r, env, W, w, l, q⟩ := q
      refine tI.use isP w l q fun d1 W1 F1 r1 H1 v1 e1 w1 l1 p1 q1 => ?_
      split at q1
      · rename_i c xs hl
        obtain ⟨p, dx, vs, e, hH, t⟩ := look_ins w1 p1 hl
        split at q1
        · rename_i f hf
          obtain ⟨nm', m1, m2, m3, m4⟩ := x.fx.mth c m f hf
          rw [of_decide_eq_true h1] at m1
          cases m1
          refine ⟨p, _, dx, _, _, e, hH, m2, m3, lookup_zip_none m4, fun s1 I1 => ?_⟩
          subst e
          have rm := x.room.mono (Nat.le_succ _)
          cases ys with
          | nil =>
            cases nil_of h6
            exact PySem.W.callWith_K0 (first := [.ref p]) I1.kIn m3.kp (wpAny_call (run_fnR (us := [.ref p]) (vs := [.ref p]) (x.cls f) rm x.pass I1 (.cons rfl .nil) ⟨F1, r1, W1, [d1], w1, .cons' p1 .nil', q1⟩))
          | cons y ys =>
            rw [List.all_cons] at h5
            obtain ⟨h5, h9⟩ := bool_and h5
            have pa : tIA X.K T.G E (ev T.tb es).a σ H1 (fun vs H2 => spR X.K T.G (T.tb.cl f) (.ref p :: vs) H2 Q E) :=
              tIA.use isP w1 l1 q1 fun d2 W2 F2 r2 H2 v2 e2 w2 l2 p2 q2 => ⟨F2, r2, W2, d1 :: d2, w2, .cons' (p1.mono e2) p2, q2⟩
            refine PySem.W.callWith_K (first := [.ref p]) (h₀ := X.base) I1.ok.mod.kin m3.kp (thn ((hs.a x h8).run pos pins s1 σ H1 _ I1 pa) fun us s2 ⟨vs, H2, I2, rr, q2⟩ => ⟨I2.kIn, ?_⟩) (star_plain (not_true h5)) (star_all h9)
            exact wpAny_call (run_fnR (us := .ref p :: us) (vs := .ref p :: vs) (x.cls f) rm x.pass I2 (.cons rfl rr) q2)
        · exact q1.elim
      · exact q1.elim
    · cases h
  · split at h
    · rfl
    · cases h
end VI
-- VEn
set_option Elab.async false
set_option linter.all false
set_option maxRecDepth 100000
set_option maxHeartbeats 2000000
namespace VI
open PySem PySem.Spec PyProof.Rows L2
open Sem (wp)
set_option maxHeartbeats 1000000 in
theorem meets_enum1 {v : Value} {o : Obj} {H : Heap → Prop} (B : Begins v o H) :
    Meets (Builtin.«enumerate.__new__» ⟨[.type "enumerate", v], []⟩) (fun _ R s => H s.heap ∧
      R (.ok (.ret (.ref (s.heap.push o).objs.size))) { s with heap := (s.heap.push o).push { cls := .type "enumerate", data := .fields #[.none, .bool false, .ref s.heap.objs.size, rawInt 0, .none, .none] } }) :=
  .of_wp fun prog w A R s h => by
    obtain ⟨hp, g, d, tk, os⟩ := s; obtain ⟨h1, h⟩ := h
    have hsub := sub_enumerate
    have q1 : ∀ {A' : Around} {E : Value → Shared → Prop} {Q : Value → Shared → Prop}, Q (.ref hp.objs.size) ⟨hp.push o, g, d, tk, os⟩ → wpAny (model prog w) A' (pyIter v) Q E ⟨hp, g, d, tk, os⟩ :=
      fun q => B.iter prog w _ _ ⟨hp, g, d, tk, os⟩ _ h1 q
    wp_walk using q1
    refine wpAny_stack_any fun st => wpAny_pure ?_
    split
    · rename_i c _ _ _ _ _
      cases (c == Value.type "enumerate")
      · wp_walk using q1
        exact ⟨_, rfl, h⟩
      · wp_walk using q1
        exact ⟨_, rfl, h⟩
    · wp_walk using q1
      exact ⟨_, rfl, h⟩
section
variable {prog : Program} {w : World} {A : Around} {E : Value → Shared → Prop} {s : Shared}
theorem enum_begins1 {v : Value} {o : Obj} {H : Heap → Prop} {Q : Value → Shared → Prop} (B : Begins v o H) (h1 : H s.heap)
    (h : ∀ h', IsEnum h' (s.heap.objs.size + 1) s.heap.objs.size 0 .none → h'.get? s.heap.objs.size = some o → h'.objs.size = s.heap.objs.size + 2 →
      (∀ b o, s.heap.get? b = some o → h'.get? b = some o) → Q (.ref (s.heap.objs.size + 1)) { s with heap := h' }) :
    wpAny (model prog w) A (call (.type "enumerate") [v]) Q E s := by
  refine callType_new F.called_enumerate (by decide) (F.typeCall_enumerate_1 _) (F.newCall_enumerate_1 _) (fun obj => F.args_object_init_2 obj _) F.entry_enumerate_new
    (meets_enum1 B) ⟨h1, ?_⟩
  have hz : (s.heap.push o).objs.size = s.heap.objs.size + 1 := Heap.size_push ..
  show _ ∧ _
  rw [hz]
  have he : IsEnum ((s.heap.push o).push { cls := .type "enumerate", data := .fields #[.none, .bool false, .ref s.heap.objs.size, rawInt 0, .none, .none] }) (s.heap.objs.size + 1) s.heap.objs.size 0 .none := by
    have := Heap.get?_push_size (s.heap.push o) (o := { cls := .type "enumerate", data := .fields #[.none, .bool false, .ref s.heap.objs.size, rawInt 0, .none, .none] }) rfl
    rw [hz] at this; exact this
  refine ⟨⟨_, he, rfl⟩, h _ he (Heap.get?_push_of_some _ (Heap.get?_push_size _ B.free)) (by rw [Heap.size_push, hz]) fun b o x => Heap.get?_push_of_some _ (Heap.get?_push_of_some _ x)⟩
end
/-- the tuple at a, each item in a new pair -/
def IteT (K : PySem.W.Frag) (a : Addr) : It :=
  ⟨fun i H => ∃ (xs : List V) (x : V), SqT K H a xs ∧ xs[i]? = some x, fun i H v H' => ∃ T x, v = .ref T ∧ H T = none ∧ H' = upd H T (.tup [.int (i : Nat), x]) ∧ ∀ xs, SqT K H a xs → xs[i]? = some x, fun i H => ∃ xs : List V, SqT K H a xs ∧ xs.length ≤ i⟩
theorem turn_enumT {P : Program} {w : World} {K : PySem.W.Frag} {elts : List Expr} {kk : Nat} {tpos : Pos} (a e it : Addr) :
    Turn P w K (.Tuple elts kk tpos) (IteT K a) [e, it] e (fun i h => (∃ old, IsEnum h e it ((i : Nat) : Int) old) ∧ h.IsTupleIter it a i ∧ e ≠ it) where
  mem := by simp
  obj := fun i h st b hb => by
    obtain ⟨⟨old, he⟩, ⟨o, ho, hc, hd⟩, _⟩ := st
    have e' : b = e ∨ b = it := by simpa using hb
    rcases e' with z | z
    · rw [z]; exact ⟨_, he, fun v q => nomatch q⟩
    · rw [z]; exact ⟨o, ho, fun v q => by rw [hd] at q; cases q⟩
  keep := fun i h h' st k => let ⟨⟨old, he⟩, hi, hne⟩ := st; ⟨⟨old, k e (by simp) _ he⟩, hi.at fun o q => k it (by simp) o q, hne⟩
  item := by
    intro X hP hw hK hc i pins s σ H E I hf st hg
    subst hP hw hK
    obtain ⟨⟨old, he⟩, hit, hne⟩ := st
    obtain ⟨xs, x, hq, hx⟩ := hg
    obtain ⟨its, rv, p, hz⟩ := I.tuple hq
    obtain ⟨u, hu, ru⟩ := rv.get hx
    have hel : e < s.heap.objs.size := Heap.lt_size he
    have hil : it < s.heap.objs.size := by obtain ⟨_, q, _⟩ := hit; exact Heap.lt_size q
    have hti : a ≠ it := fun z => by
      subst z
      obtain ⟨o1, q1, c1, _⟩ := hit
      obtain ⟨o2, q2, c2, _⟩ := p
      rw [q1] at q2; cases q2
      injection c1.symm.trans c2 with z; exact absurd z (by decide)
    have hea : e ≠ a := fun z => by
      subst z
      obtain ⟨o2, q2, c2, _⟩ := p
      rw [he] at q2; cases q2
      injection c2 with z; exact absurd z (by decide)
    have hlt : i < its.toArray.size := by simpa using (List.getElem?_eq_some_iff.mp hu).1
    refine wpAny_pyNext_enum_itemC (Draws.tuple (A := X.A.in1) (I.ok.hd hc) it a hti its.toArray) he ⟨hit, p⟩ hlt hne (by simp [hne, hea]) fun x' h' tk hx' ho hs hT hsz hk => ?_
    obtain ⟨hit', _⟩ := hs
    rw [show x' = u from by simp at hx'; rw [hu] at hx'; cases hx'; rfl] at ho hT
    refine ⟨_, rfl, wpAny_letOwnedTupleGo_enum (s := { s with heap := h', toks := tk + 1 }) ho fun h'' he' sb => ?_⟩
    have hT2 : h''.get? s.heap.objs.size = some { cls := .type "tuple", data := .seq #[.int i tk, u] } := (sb.2 _ (Nat.ne_of_gt hel)).trans hT
    have new : ObjOk X.prog X.w (upd H s.heap.objs.size (.tup [.int (i : Nat), x])) h'' s.heap.objs.size (.tup [.int (i : Nat), x]) :=
      ⟨by show 2 ≤ sizeLine; decide, [.int i tk, u], .cons ⟨_, rfl⟩ (.cons ru .nil), ⟨_, hT2, rfl, _, rfl⟩⟩
    have I1 : Inv X pins σ (upd H s.heap.objs.size (.tup [.int (i : Nat), x])) { s with heap := h'', toks := tk + 1 } :=
      I.turnedNew (ch := [e, it]) (fun b ob hb q => (sb.2 b (fun z => hb (by simp [z]))).trans (hk b ob (fun z => hb (by simp [z])) (fun z => hb (by simp [z])) q)) hf (Nat.le_refl _) new
    refine ⟨.ref s.heap.objs.size, _, I1, rfl, ⟨_, x, rfl, I.hok.fresh (Nat.le_refl _), rfl, fun ys hy => by rw [I.tuple_inj hy hq]; exact hx⟩, ⟨⟨u, ?_⟩, hit'.at fun o q => (sb.2 it (Ne.symm hne)).trans q, hne⟩, fun b hb => ?_⟩
    · have e1 : ((i + 1 : Nat) : Int) = (i : Int) + 1 := by omega
      rw [e1]; exact he'
    · have hb' : b < s.heap.objs.size := by
        have e' : b = e ∨ b = it := by simpa using hb
        rcases e' with z | z
        · rw [z]; exact hel
        · rw [z]; exact hil
      rw [upd_ne (Nat.ne_of_lt hb')]
      exact (hf b hb).1
  done := by
    intro X hP hw hK hc i pins s σ H E I hf st hg
    subst hP hw hK
    obtain ⟨⟨old, he⟩, hit, hne⟩ := st
    obtain ⟨xs, hq, hx⟩ := hg
    obtain ⟨its, rv, p, hz⟩ := I.tuple hq
    obtain ⟨f0, f1, f2, f3, f4, f5⟩ := hf it (by simp)
    have hl := rv.length
    have hxx : its.toArray[i]? = none := by simp; omega
    have hT : s.TypeIs (.ref e) "enumerate" := ⟨_, he, rfl⟩
    unfold pyNext
    refine wpAny_bind (wpAny_attempt (wpAny_callSpecial?_slot (name := Str.ofString "__next__") hT F.slot_enumerate_next
      (wpAny_call_entry F.slot_enumerate_next hT F.entry_enumerate_next ?_ (F.args_enumerate_next_1 _))))
    show wpAny _ _ (field (.ref e) 2 >>= _) _ _ _
    refine wpAny_bind (wpAny_field he rfl (x := .ref it) rfl ?_)
    refine wpAny_bind (wpAny_nextOf_tuple_end (I.ok.hd hc) hit p hxx fun h' x he' hx' => ?_)
    obtain ⟨o, ho, hcc⟩ := hx'
    refine wpAny_bind (wpAny_isInstance (T := "StopIteration") (b := true) ⟨o, ho, hcc⟩ isSubtype_stop ?_)
    exact wpAny_pure ⟨rfl, I.turned (t' := s.toks) (fun b o hb q => he' b o hb q) f0 f1 f3 f4 f5⟩
  self := fun A i s Q E st h => let ⟨⟨_, he⟩, _⟩ := st; wpAny_pyIter_enum he h
def iEnumT (K : PySem.W.Frag) (ta : TA) : TI := fun σ H R => ta σ H fun vs H1 => ∃ a xs, vs = [.ref a] ∧ ((SqL K H1 a xs ∧ R (Ite K a) H1) ∨ (SqT K H1 a xs ∧ R (IteT K a) H1))
theorem pi_enumT {X : Cx} {e : Expr} {ta : TA} {p pos tpos : Pos} {elts : List Expr} {kk : Nat} (hg : Gl X "enumerate") (hm : X.mg "enumerate" = none) (ha : PA X [e] ta) (hs : starEach [e] X.env = [(false, eval e X.env)]) :
    PI X (.Tuple elts kk tpos) (.Call (.Name "enumerate" p) [e] [] pos) (iEnumT X.K ta) := by
  refine ⟨fun pins s σ H R I h => ?_⟩
  refine Call_ (ld_blt I hg hm boot_enumerate (PyProof.Rows.callWith_type1 (thn (ha.run pos pins s σ H _ I h) fun us s1 ⟨vs, H1, I1, r1, q1⟩ => ?_) hs rfl))
  obtain ⟨a, xs, ex, q1⟩ := q1
  subst ex
  cases r1 with
  | cons r rr =>
    cases rr
    cases r
    have fin : ∀ b, b ∈ [s1.heap.objs.size + 1, s1.heap.objs.size] → FpOk X pins H1 b := fun b hb => by
      have e' : b = s1.heap.objs.size + 1 ∨ b = s1.heap.objs.size := by simpa using hb
      have hle : s1.heap.objs.size ≤ b := by
        rcases e' with z | z
        · rw [z]; exact Nat.le_add_right _ _
        · rw [z]; exact Nat.le_refl _
      exact I1.fpOk hle (I1.hok.fresh hle)
    rcases q1 with ⟨hq, q⟩ | ⟨hq, q⟩
    · obtain ⟨its, rv, p', hz⟩ := I1.list hq
      refine call_enumerate_list p'.isList fun h' he hit hsz hk => wpAny_pyIter_enum he ?_
      have I2 : Inv X pins σ H1 { s1 with heap := h' } := I1.kept (t' := s1.toks) hk
      exact ⟨s1.heap.objs.size + 1, [s1.heap.objs.size + 1, s1.heap.objs.size], _, _, H1, rfl, I2, turn_enum a (s1.heap.objs.size + 1) s1.heap.objs.size, ⟨⟨.none, he⟩, hit, Nat.succ_ne_self _⟩, fin, q⟩
    · obtain ⟨its, rv, p', hz⟩ := I1.tuple hq
      refine enum_begins1 (begins_tuple a its.toArray) p' fun h' he hit hsz hk => wpAny_pyIter_enum he ?_
      have I2 : Inv X pins σ H1 { s1 with heap := h' } := I1.kept (t' := s1.toks) hk
      exact ⟨s1.heap.objs.size + 1, [s1.heap.objs.size + 1, s1.heap.objs.size], _, _, H1, rfl, I2, turn_enumT a (s1.heap.objs.size + 1) s1.heap.objs.size, ⟨⟨.none, he⟩, ⟨_, hit, rfl, rfl⟩, Nat.succ_ne_self _⟩, fin, q⟩
theorem walk_enumT {K : PySem.W.Frag} {a : Addr} {xs : List V} : Walk (IteT K a) xs.length (fun H => SqT K H a xs) (YPair (fun i => some (.int (i : Nat))) (fun i => xs[i]?)) := by
  refine ⟨fun i _ hi q => ⟨xs, xs[i], q, by simp [hi]⟩, fun _ q => ⟨xs, q, Nat.le_refl _⟩, fun i H v H' _ q y => ?_⟩
  obtain ⟨T, x, h1, h2, h3, h4⟩ := y
  exact ⟨T, .int (i : Nat), x, h1, h2, h3, rfl, h4 xs q⟩
end VI
-- VL
set_option Elab.async false
set_option linter.all false
set_option maxRecDepth 100000
set_option maxHeartbeats 2000000
namespace VI
open PySem PySem.Spec PyProof.Rows L2
variable {T : Tab} {N : List Str} {E : XK}

/-! ### targets -/
def gI (K : PySem.W.Frag) (G : Cls_) (g : IG) : TG := fun v σ H Q => ∃ F r W d env env1, RelW K G F r H W ∧ RelE K G F r H env σ ∧ Rep K G F r H d v ∧ bindG W g d env = some env1 ∧
  ∀ σ', RelE K G F r H env1 σ' → (∀ own, tgIn own g = true → wipe σ' own = wipe σ own) → Q σ' H
def gIs (K : PySem.W.Frag) (G : Cls_) (g : IG) : TGs := fun vs σ H Q => ∃ F r W ds env env1, RelW K G F r H W ∧ RelE K G F r H env σ ∧ RepL K G F r H ds vs ∧ bindG.binds W g ds env = some env1 ∧
  ∀ σ', RelE K G F r H env1 σ' → (∀ own, tgIn own g = true → wipe σ' own = wipe σ own) → Q σ' H
theorem wipe_get (σ : L2.St) : ∀ (vs : List Nat) (j : Nat), (wipe σ vs)[j]? = if j ∈ vs then (if j < σ.length then some none else none) else σ[j]?
  | [], j => by simp [wipe]
  | v :: vs, j => by
    unfold wipe
    by_cases hv : v = j
    · subst hv
      rw [if_pos List.mem_cons_self]
      by_cases h : v < σ.length
      · rw [if_pos h, List.getElem?_set_self (by rw [wipe_length]; exact h)]
      · rw [if_neg h, List.getElem?_eq_none (by rw [List.length_set, wipe_length]; omega)]
    · rw [List.getElem?_set_ne hv, wipe_get σ vs j]
      have : (j ∈ v :: vs) ↔ j ∈ vs := by simp [Ne.symm hv]
      simp only [this]
theorem wipe_set {σ : L2.St} {i : Nat} {x : Option V} {own : List Nat} (h : i ∈ own) : wipe (σ.set i x) own = wipe σ own := by
  apply List.ext_getElem?
  intro j
  rw [wipe_get, wipe_get, List.length_set]
  by_cases hj : j ∈ own
  · simp [hj]
  · have : i ≠ j := fun e => hj (e ▸ h)
    simp [hj, List.getElem?_set_ne this]
theorem asgB_ok {x : Str} {sc : Scope} {fnb : Str → Bool} (h : asgB sc fnb x = true) : Loc sc x ∧ (fnb x = true ∨ sc.names.lookup x = some .local) := by
  unfold asgB at h
  split at h
  · rename_i q; exact ⟨.inl q, .inr q⟩
  · rename_i q; exact ⟨.inr q, .inl h⟩
  · cases h
theorem asgEach_plain {e : Expr} {es : List Expr} {env : Env} (h : isSt e = false) : assignEach (e :: es) env = (false, assign e env) :: assignEach es env := by
  cases e <;> first | rfl | cases h
theorem chkGs_len {fnb : Str → Bool} {sc : Scope} {env : Env} : ∀ {g : IG} {es : List Expr}, chkGs N sc fnb g es = true → (assignEach es env).length = es.length ∧ (assignEach es env).findIdx? (·.1) = none
  | .nil, [], _ => ⟨rfl, rfl⟩
  | .nil, _ :: _, h => absurd h (by simp [chkGs])
  | .nm _, _, h => absurd h (by simp [chkGs])
  | .tup _, _, h => absurd h (by simp [chkGs])
  | .cons _ _, [], h => absurd h (by simp [chkGs])
  | .cons g r, e :: es, h => by
    simp only [chkGs] at h
    obtain ⟨h1, h2⟩ := bool_and h
    obtain ⟨h2, h3⟩ := bool_and h2
    obtain ⟨i1, i2⟩ := chkGs_len (env := env) h3
    rw [asgEach_plain (not_true h1)]
    refine ⟨by simp [i1], ?_⟩
    rw [List.findIdx?_cons, i2]
    rfl
theorem binds_len {sc : Scope} {fnb : Str → Bool} {W : Wd} : ∀ {g : IG} {ds : List D} {es : List Expr} {env env1 : EnvD}, chkGs N sc fnb g es = true → bindG.binds W g ds env = some env1 → ds.length = es.length
  | .nil, [], [], _, _, _, _ => rfl
  | .nil, _ :: _, _, _, _, _, b => by simp [bindG.binds] at b
  | .nil, _, _ :: _, _, _, h, _ => absurd h (by simp [chkGs])
  | .nm _, _, _, _, _, h, _ => absurd h (by simp [chkGs])
  | .tup _, _, _, _, _, h, _ => absurd h (by simp [chkGs])
  | .cons _ _, _, [], _, _, h, _ => absurd h (by simp [chkGs])
  | .cons _ _, [], _ :: _, _, _, _, b => by simp [bindG.binds] at b
  | .cons g r, d :: ds, e :: es, env, env1, h, b => by
    simp only [chkGs] at h
    obtain ⟨h1, h2⟩ := bool_and h
    obtain ⟨h2, h3⟩ := bool_and h2
    unfold bindG.binds at b
    split at b
    · rw [List.length_cons, List.length_cons, binds_len h3 b]
    · cases b
theorem pg_of {X : Cx} {k : Nat} {sc : Scope} {fnb : Str → Bool} (x : XOk T E sc N k X) (hf : ∀ y, fnb y = true → X.fn y = true) : ∀ g : IG,
    (∀ e, chkG N sc fnb g e = true → PG X e (gI X.K T.G g)) ∧ ∀ es, chkGs N sc fnb g es = true → PGs X es (gIs X.K T.G g) := by
  intro g
  induction g with
  | nm i =>
    refine ⟨fun e h => ?_, fun es h => absurd h (by simp [chkGs])⟩
    unfold chkG at h
    split at h
    · rename_i i' y p hi
      cases hi
      obtain ⟨h1, h2⟩ := bool_and h
      obtain ⟨l1, l2⟩ := asgB_ok h2
      refine ⟨fun pins s σ H v u Q I rv q => ?_⟩
      refine (pg_name (i := i) (by rw [x.hN]; exact x.nd) (by rw [x.hN]; exact of_decide_eq_true h1) (by rw [x.hs]; exact l1) ?_).run pins s σ H v u Q I rv ?_
      · rcases l2 with l2 | l2
        · exact .inl (hf _ l2)
        · exact .inr (by rw [x.hs]; exact l2)
      · obtain ⟨F, r, W, d, env, env1, w, l, rd, b, k⟩ := q
        unfold bindG at b
        split at b
        · rename_i hi
          cases b
          refine k _ (l.set hi rd) fun own ho => wipe_set (by simpa [tgIn] using ho)
        · cases b
    · rename_i hi; cases hi
    · cases h
  | nil =>
    refine ⟨fun e h => absurd h (by simp [chkG]), fun es h => ?_⟩
    cases es with
    | cons _ _ => exact absurd h (by simp [chkGs])
    | nil =>
      refine ⟨fun pins s σ H vs us Q I rv q => pgs_nil.run pins s σ H vs us Q I rv ?_⟩
      obtain ⟨F, r, W, ds, env, env1, w, l, rd, b, k⟩ := q
      cases ds with
      | nil =>
        unfold bindG.binds at b
        cases b
        exact ⟨rd.inv0, k _ l fun _ _ => rfl⟩
      | cons _ _ => simp [bindG.binds] at b
  | cons g r ig ir =>
    refine ⟨fun e h => absurd h (by simp [chkG]), fun es h => ?_⟩
    cases es with
    | nil => exact absurd h (by simp [chkGs])
    | cons e es =>
      simp only [chkGs] at h
      obtain ⟨h1, h2⟩ := bool_and h
      obtain ⟨h2, h3⟩ := bool_and h2
      refine ⟨fun pins s σ H vs us Q I rv q => (pgs_cons (ig.1 e h2) (ir.2 es h3) (by rw [asgEach_plain (not_true h1)]; rfl)).run pins s σ H vs us Q I rv ?_⟩
      obtain ⟨F, rr, W, ds, env, env1, w, l, rd, b, k⟩ := q
      cases ds with
      | nil => simp [bindG.binds] at b
      | cons d ds =>
        obtain ⟨v, ws, rfl, rd1, rd2⟩ := rd.inv
        unfold bindG.binds at b
        split at b
        · rename_i env2 b1
          refine ⟨v, ws, rfl, F, rr, W, d, env, env2, w, l, rd1, b1, fun σ1 l1 hw1 => ?_⟩
          refine ⟨F, rr, W, ds, env2, env1, w, l1, rd2, b, fun σ2 l2 hw2 => k σ2 l2 fun own ho => ?_⟩
          simp only [tgIn] at ho
          obtain ⟨o1, o2⟩ := bool_and ho
          rw [hw2 own o2, hw1 own o1]
        · cases b
  | tup gs ih =>
    refine ⟨fun e h => ?_, fun es h => absurd h (by simp [chkGs])⟩
    unfold chkG at h
    split at h
    · rename_i hi; cases hi
    · rename_i gs' es k p hi
      cases hi
      obtain ⟨l1, l2⟩ := chkGs_len (env := X.env) h
      refine ⟨fun pins s σ H v u Q I rv q => (pg_tup x.calm (ih.2 es h) rfl l2).run pins s σ H v u Q I rv ?_⟩
      obtain ⟨F, r, W, d, env, env1, w, l, rd, b, k⟩ := q
      unfold bindG at b
      split at b
      · rename_i xs hx
        have hl := lookR_tup hx
        obtain ⟨p, vs, e, s1, t⟩ := look_tup rd hl
        refine ⟨p, vs, e, s1, ?_, F, r, W, xs, env, env1, w, l, t, b, fun σ' l' hw => k σ' l' fun own ho => hw own ho⟩
        rw [← t.length, binds_len h b, l1]
      · cases b
    · cases h
end VI
-- VM
set_option Elab.async false
set_option linter.all false
set_option maxRecDepth 100000
set_option maxHeartbeats 2000000
namespace VI
open PySem PySem.Spec PyProof.Rows L2
variable {T : Tab} {N : List Str} {E : XK}

def E0 : XK := fun _ _ _ => False
theorem passes0 {X : Cx} : Passes (CX X.prog X.w) X E0 := by
  rintro pins σ H s e s' I ⟨a, B, H', cls, d, ea, fl, hok, ub, na, os, ag, he⟩
  exact he.elim
theorem XOk.blk {sc s0 : Scope} {k : Nat} {X : Cx} (x : XOk T E sc N k X) (s : Shared) (H : Hp) (C : Addr) (cl : List (Str × Addr)) (fp : List Addr) : XOk T E0 (relS s0 sc) N k (X.blk s H s0 (compEnvC s0 cl C X.env) fp) where
  fx := x.fx
  hN := x.hN
  nd := x.nd
  hs := by rw [← x.hs]; rfl
  calm := x.calm
  pass := passes0
  room := x.room
  clk := x.clk
  cls := x.cls
theorem wipe_idem {σ : L2.St} {own : List Nat} : wipe (wipe σ own) own = wipe σ own := by
  apply List.ext_getElem?
  intro j
  rw [wipe_get, wipe_get, wipe_length]
  by_cases hj : j ∈ own
  · simp [hj]
  · simp [hj]
theorem wipeE_get (env : EnvD) : ∀ (vs : List Nat) (j : Nat) (d : D), (wipeE env vs)[j]? = some (some d) → env[j]? = some (some d) ∧ j ∉ vs
  | [], j, d, h => ⟨h, by simp⟩
  | v :: vs, j, d, h => by
    unfold wipeE at h
    by_cases hv : v = j
    · subst hv
      by_cases hl : v < (wipeE env vs).length
      · rw [List.getElem?_set_self hl] at h; cases h
      · rw [List.getElem?_eq_none (by rw [List.length_set]; omega)] at h; cases h
    · rw [List.getElem?_set_ne hv] at h
      obtain ⟨h1, h2⟩ := wipeE_get env vs j d h
      exact ⟨h1, by simp [h2, Ne.symm hv]⟩
theorem wipeE_length (env : EnvD) : ∀ vs : List Nat, (wipeE env vs).length = env.length
  | [] => rfl
  | v :: vs => by unfold wipeE; rw [List.length_set, wipeE_length env vs]
theorem relE_wipe {K : PySem.W.Frag} {G : Cls_} {F : Addr → Prop} {r : List Addr} {H : Hp} {env : EnvD} {σ : L2.St} (l : RelE K G F r H env σ) (own : List Nat) : RelE K G F r H (wipeE env own) (wipe σ own) := by
  refine ⟨by rw [wipeE_length, wipe_length, l.len], fun i d h => ?_⟩
  obtain ⟨h1, h2⟩ := wipeE_get env own i d h
  obtain ⟨v, hv, p⟩ := l.at_ i d h1
  exact ⟨v, by rw [wipe_get, if_neg h2]; exact hv, p⟩
theorem compL_cons {tg : IG} {cond : EvF Bool} {elt : EvF D} {env : EnvD} {x : D} {xs : List D} {W W3 : Wd} {zs : List D} (h : compL tg cond elt env (x :: xs) W = .ok zs W3) : ∃ env1 k W1, bindG W tg x env = some env1 ∧ cond env1 W = .ok k W1 ∧
    ((k = false ∧ compL tg cond elt env xs W1 = .ok zs W3) ∨ (k = true ∧ ∃ y W2 ys, elt env1 W1 = .ok y W2 ∧ compL tg cond elt env xs W2 = .ok ys W3 ∧ zs = y :: ys)) := by
  unfold compL at h
  split at h
  · cases h
  · rename_i env1 hb
    split at h
    · rename_i W1 hc
      split at h
      · rename_i y W2 he
        split at h
        · rename_i ys W3' hr
          cases h
          exact ⟨env1, true, W1, hb, hc, .inr ⟨rfl, y, W2, ys, he, hr, rfl⟩⟩
        · cases h
      · cases h
    · rename_i W1 hc
      exact ⟨env1, false, W1, hb, hc, .inl ⟨rfl, h⟩⟩
    · cases h
/-- a comprehension's turns, read -/
theorem comp_rd {K : PySem.W.Frag} {G : Cls_} {tg : IG} {cond : EvF Bool} {elt : EvF D} {own : List Nat} {J : It} {F1 : Addr → Prop} {r1 : List Addr} {H1 : Hp} {env : EnvD} {σ : L2.St} {W1 W3 : Wd} {xs zs : List D} {R : V → Hp → Prop}
    (w : RelW K G F1 r1 H1 W1) (l : RelE K G F1 r1 H1 env σ) (io : IterOk K G J xs F1 r1 H1) (hz : fits xs.length = true) (ho : tgIn own tg = true) (hc : compL tg cond elt (wipeE env own) xs W1 = .ok zs W3)
    (hR : ∀ D F2 r2 H2 vs, H1 D = none → Ext F1 r1 H1 F2 r2 H2 → RelW K G F2 r2 H2 W3 → ¬ F2 D → D ∉ r2 → H2 D = some (.lst vs) → RepL K G F2 r2 H2 zs vs → R (.ref D) H2) :
    ∀ D, H1 D = none → ∃ W : Nat → Nat → Hp → Prop, (∃ m, W 0 m (upd H1 D (.lst []))) ∧ ∀ i m H, W i m H →
  (J.stop i H ∧ R (.ref D) H) ∨ (J.go i H ∧ ∃ Nx : Hp → Prop, (∀ H', Nx H' → ∃ m', m' < m ∧ W (i + 1) m' H') ∧ ∀ x H', J.yld i H x H' → gI K G tg x (wipe σ own) H' fun σ2 H2 => wipe σ2 own = wipe σ own ∧ tIT K G E0 cond σ2 H2 fun b H3 =>
    if b = true then tI K G E0 elt σ2 H3 fun y H4 => ∃ acc, H4 D = some (.lst acc) ∧ acc.length < sizeLine ∧ Nx (upd H4 D (.lst (acc ++ [y]))) else Nx H3) := by
  intro D hD
  obtain ⟨G_, Y, wk, hG, hY⟩ := io.ex
  have le := relE_wipe l own
  have e0 := ext_upd w hD (o := .lst [])
  have w0 := relW_upd w hD (o := .lst [])
  refine lc_it wk (D := D) (Qd := R (.ref D)) (fun i H => ∃ F2 r2 W2 ys vs zs', Ext F1 r1 H1 F2 r2 H ∧ RelW K G F2 r2 H W2 ∧ ¬ F2 D ∧ D ∉ r2 ∧ H D = some (.lst vs) ∧ RepL K G F2 r2 H ys vs ∧ vs.length ≤ i ∧ compL tg cond elt (wipeE env own) (xs.drop i) W2 = .ok zs' W3 ∧ zs = ys ++ zs')
    ⟨F1, r1, W1, [], [], zs, e0, w0, notF w hD, notR w hD, upd_same, .nil', Nat.zero_le _, hc, rfl⟩ ?_ ?_ ?_
  · rintro i H _ ⟨F2, r2, W2, ys, vs, zs', e, w2, nf, nr, hd, t, hl, hcc, hzz⟩
    exact hG _ _ _ e
  · rintro i v H H' hi ⟨F2, r2, W2, ys, vs, zs', e, w2, nf, nr, hd, t, hl, hcc, hzz⟩ hy
    have hx : xs[i]? = some xs[i] := List.getElem?_eq_getElem hi
    obtain ⟨F3, e3, w3, p3⟩ := hY _ _ _ W2 i xs[i] v H' e w2 hx hy
    rw [List.drop_eq_getElem_cons hi] at hcc
    have eF := e.trans w2.rh e3
    have nf3 : ¬ F3 D := fun z => by
      rcases e3.fnew D z with z | z | z
      · exact nf z
      · exact nr z
      · rw [hd] at z; cases z
    have hd3 : H' D = some (.lst vs) := e3.oth D _ hd nr
    obtain ⟨env1, kk, W4, hb, hcond, hcase⟩ := compL_cons hcc
    refine ⟨F3, r2, W2, xs[i], wipeE env own, env1, w3, le.mono eF, p3, hb, fun σ2 l2 hw => ⟨by rw [hw own ho, wipe_idem], ?_⟩⟩
    refine ⟨F3, r2, env1, W2, w3, l2, ?_⟩
    rw [hcond]
    intro F4 r4 H4 e4 w4
    have nf4 : ¬ F4 D := fun z => by
      rcases e4.fnew D z with z | z | z
      · exact nf3 z
      · exact nr z
      · rw [hd3] at z; cases z
    have nr4 : D ∉ r4 := fun z => by
      rcases e4.rnew D z with z | z
      · exact nr z
      · rw [hd3] at z; cases z
    have hd4 : H4 D = some (.lst vs) := e4.oth D _ hd3 nr
    have eF4 := eF.trans w3.rh e4
    have t4 := RepL.mono e4 (RepL.mono e3 t)
    rcases hcase with ⟨rfl, hr⟩ | ⟨rfl, y, W5, ys', hel, hr, rfl⟩
    · rw [if_neg Bool.false_ne_true]
      exact ⟨F4, r4, W4, ys, vs, zs', eF4, w4, nf4, nr4, hd4, t4, Nat.le_succ_of_le hl, hr, hzz⟩
    · rw [if_pos rfl]
      refine ⟨F4, r4, env1, W4, w4, l2.mono e4, ?_⟩
      rw [hel]
      intro F5 r5 H5 u e5 w5 p5
      have nf5 : ¬ F5 D := fun z => by
        rcases e5.fnew D z with z | z | z
        · exact nf4 z
        · exact nr4 z
        · rw [hd4] at z; cases z
      have nr5 : D ∉ r5 := fun z => by
        rcases e5.rnew D z with z | z
        · exact nr4 z
        · rw [hd4] at z; cases z
      have hd5 : H5 D = some (.lst vs) := e5.oth D _ hd4 nr4
      refine ⟨vs, hd5, ?_, F5, r5, W5, ys ++ [y], vs ++ [u], ys', ext_apart (eF4.trans w4.rh e5) hD nf5, relW_apart w5 nf5 nr5, nf5, nr5, upd_same, repL_apart nf5 ((RepL.mono e5 t4).append (.cons' p5 .nil')), ?_, hr, ?_⟩
      · have := fits_le hz
        omega
      · rw [List.length_append]; exact Nat.succ_le_succ hl
      · rw [hzz, List.append_assoc]; rfl
  · rintro H ⟨F2, r2, W2, ys, vs, zs', e, w2, nf, nr, hd, t, hl, hcc, hzz⟩
    rw [List.drop_length] at hcc
    unfold compL at hcc
    cases hcc
    rw [List.append_nil] at hzz
    subst hzz
    exact hR D F2 r2 H vs hD e w2 nf nr hd t
theorem compL_exc {tg : IG} {cond : EvF Bool} {elt : EvF D} {env : EnvD} : ∀ {xs : List D} {W : Wd} {c : Nat} {ys : List D} {W' : Wd}, compL tg cond elt env xs W ≠ .exc c ys W'
  | [], W, c, ys, W' => by unfold compL; exact fun h => nomatch h
  | x :: xs, W, c, ys, W' => by
    unfold compL
    split
    · exact fun h => nomatch h
    · split
      · split
        · split
          · exact fun h => nomatch h
          · exact fun h => nomatch h
        · exact fun h => nomatch h
      · exact compL_exc
      · exact fun h => nomatch h
theorem tt_eq {c : IE} (h : isTT c = true) : c = .con (.bl true) := by
  unfold isTT at h
  split at h
  · rfl
  · cases h
def CompRd (T : Tab) (X : Cx) (E : XK) (elt it cond : IE) (tg : IG) (own : List Nat) : TE := fun σ H Q => ∃ F r env W, RelW X.K T.G F r H W ∧ RelE X.K T.G F r H env σ ∧ ∃ fin : List D → Wd → Res D, Post X.K T.G E Q F r H (((ev T.tb it).i env W).bind fun xs W1 => if fits xs.length then (compL tg (ev T.tb cond).t (ev T.tb elt).e (wipeE env own) xs W1).bind fin else .no) ∧
      ∀ D F1 r1 H1 F2 r2 H2 vs zs W3, H1 D = none → Ext F1 r1 H1 F2 r2 H2 → RelW X.K T.G F2 r2 H2 W3 → ¬ F2 D → D ∉ r2 → H2 D = some (.lst vs) → RepL X.K T.G F2 r2 H2 zs vs → Post X.K T.G E Q F1 r1 H1 (fin zs W3) → Q (.ref D) H2
theorem comp_parts {elt it cond : IE} {tg : IG} {own : List Nat} (he : Sd T N elt) (hi : Sd T N it) (hc : Sd T N cond) {sc : Scope} {k : Nat} {X : Cx} {ex : Expr} (x : XOk T E sc N k X)
    (h : chkL (chk T.n N elt) tg (chk T.n N it) (chk T.n N cond) (isTT cond) T.n N own sc ex = true) :
    ∃ el t iter ifs s pos, ex = .ListComp el [⟨t, iter, ifs, 0⟩] s pos ∧ PI X t iter (tII X.K T.G E (ev T.tb it).i) ∧ BlkOk X.N X.env.scope s (ownP N own) ∧
      (∀ (ss : Shared) (HH : Hp) (C : Addr) (cl : List (Str × Addr)) (fp : List Addr), PG (X.blk ss HH s (compEnvC s cl C X.env) fp) t (gI X.K T.G tg)) ∧
      (∀ (ss : Shared) (HH : Hp) (C : Addr) (cl : List (Str × Addr)) (fp : List Addr), PTs (X.blk ss HH s (compEnvC s cl C X.env) fp) ifs (tIT X.K T.G E0 (ev T.tb cond).t)) ∧
      (∀ (ss : Shared) (HH : Hp) (C : Addr) (cl : List (Str × Addr)) (fp : List Addr), PE (X.blk ss HH s (compEnvC s cl C X.env) fp) el (tI X.K T.G E0 (ev T.tb elt).e)) ∧
      (∀ y, foldedSetIterable iter X.env y = pure y) ∧
      ∀ σ H Q, CompRd T X E elt it cond tg own σ H Q → tLc (tII X.K T.G E (ev T.tb it).i) (gI X.K T.G tg) (tIT X.K T.G E0 (ev T.tb cond).t) (tI X.K T.G E0 (ev T.tb elt).e) ((ownP N own).map (·.2)) σ H Q := by
  unfold chkL at h
  split at h
  · rename_i el t iter ifs a s pos
    obtain ⟨h1, h⟩ := bool_and h
    obtain ⟨h2, h⟩ := bool_and h
    obtain ⟨h3, h⟩ := bool_and h
    obtain ⟨h4, h⟩ := bool_and h
    obtain ⟨h5, h⟩ := bool_and h
    obtain ⟨h6, h⟩ := bool_and h
    obtain ⟨h7, h8⟩ := bool_and h
    have ha := of_decide_eq_true h1
    subst ha
    have hown : (ownP N own).map (·.2) = own := by
      unfold ownP
      rw [List.map_map]
      simp [Function.comp_def]
    have hpt : ∀ (ss : Shared) (HH : Hp) (C : Addr) (cl : List (Str × Addr)) (fp : List Addr), PTs (X.blk ss HH s (compEnvC s cl C X.env) fp) ifs (tIT X.K T.G E0 (ev T.tb cond).t) := fun ss HH C cl fp => by
      have xb := x.blk (s0 := s) ss HH C cl fp
      split at h8
      · cases tt_eq h8
        refine ⟨fun pins s' σ H Q I q => pts_nil.run pins s' σ H Q I ?_⟩
        obtain ⟨F, r, env, W, w, l, q⟩ := q
        exact q F r H .refl w
      · rename_i c
        exact pts_one (hc.t xb (bool_and h8).2)
      · cases h8
    refine ⟨el, t, iter, ifs, s, pos, rfl, hi.i x h2, by rw [x.hN, x.hs]; exact blkOk_by h4, fun ss HH C cl fp => (pg_of (x.blk (s0 := s) ss HH C cl fp) (fun y hy => hy) tg).1 t h5, hpt, fun ss HH C cl fp => he.e (x.blk (s0 := s) ss HH C cl fp) h7, ?_, fun σ H Q q => ?_⟩
    · intro y
      cases iter <;> first | rfl | exact absurd h3 (by simp [isSet])
    · obtain ⟨F, r, env, W, w, l, fin, q, hfin⟩ := q
      rw [hown]
      unfold tLc
      refine ⟨F, r, env, W, w, l, ?_⟩
      cases z : (ev T.tb it).i env W with
      | no => rw [z] at q; exact q
      | exc c xs W1 => rw [z] at q; exact q
      | ok xs W1 =>
        rw [z] at q
        intro F1 r1 H1 J e1 w1 io
        simp only [Res.bind] at q
        split at q
        · rename_i hz
          cases z2 : compL tg (ev T.tb cond).t (ev T.tb elt).e (wipeE env own) xs W1 with
          | no => rw [z2] at q; exact q.elim
          | exc c ys W' => exact absurd z2 compL_exc
          | ok zs W3 =>
            rw [z2] at q
            exact comp_rd w1 (l.mono e1) io hz h6 z2 fun D F2 r2 H2 vs hD e2 w2 nf nr hd t => hfin D F1 r1 H1 F2 r2 H2 vs zs W3 hD e2 w2 nf nr hd t (isP.back _ _ _ _ _ _ _ w1.rh e1 q)
        · exact q.elim
  · cases h
theorem comp_pe {elt it cond : IE} {tg : IG} {own : List Nat} (he : Sd T N elt) (hi : Sd T N it) (hc : Sd T N cond) {sc : Scope} {k : Nat} {X : Cx} {ex : Expr} (x : XOk T E sc N k X)
    (h : chkL (chk T.n N elt) tg (chk T.n N it) (chk T.n N cond) (isTT cond) T.n N own sc ex = true) : PE X ex (CompRd T X E elt it cond tg own) := by
  obtain ⟨el, t, iter, ifs, s, pos, rfl, p1, p2, p3, p4, p5, p6, p7⟩ := comp_parts he hi hc x h
  exact PE.imp (pe_lc (wi := tII X.K T.G E (ev T.tb it).i) (g := gI X.K T.G tg) (tt := tIT X.K T.G E0 (ev T.tb cond).t) (te := tI X.K T.G E0 (ev T.tb elt).e) x.calm (by rw [x.hN]; exact x.nd) p1 p2 p3 p4 p5 p6) p7
theorem chkL_plain {elt it cond : Chk} {tg : IG} {tt : Bool} {n : Nm} {own : List Nat} {sc : Scope} {ex : Expr} (h : chkL elt tg it cond tt n N own sc ex = true) : plainT ex = true := by
  unfold chkL at h
  split at h
  · rfl
  · cases h
section
variable {K : PySem.W.Frag} {G : Cls_} {F1 F2 : Addr → Prop} {r1 r2 : List Addr} {H1 H2 : Hp} {W3 : Wd} {P : Addr} {vs : List V} {zs : List D} {Q : VK}
theorem comp_fz (hD : H1 P = none) (e2 : Ext F1 r1 H1 F2 r2 H2) (w2 : RelW K G F2 r2 H2 W3) (nf : ¬ F2 P) (nr : P ∉ r2) (hd : H2 P = some (.lst vs)) (t : RepL K G F2 r2 H2 zs vs) (q : Post K G E Q F1 r1 H1 (.ok (.lst zs) W3)) : Q (.ref P) H2 := by
  refine q _ _ _ _ (ext_apart_frz e2 hD) (relW_apart_frz w2 (by rw [hd]; exact Option.some_ne_none _) nr) ?_
  simp only [Rep]
  exact ⟨P, vs, rfl, .inr rfl, hd, RepL.mn (fun b f => ⟨.inl f, rfl⟩) (List.prefix_refl _) t⟩
theorem comp_mu (hD : H1 P = none) (e2 : Ext F1 r1 H1 F2 r2 H2) (w2 : RelW K G F2 r2 H2 W3) (nf : ¬ F2 P) (nr : P ∉ r2) (hd : H2 P = some (.lst vs)) (t : RepL K G F2 r2 H2 zs vs) (q : Post K G E Q F1 r1 H1 (.ok (.hd W3.length) (W3 ++ [.lst zs]))) : Q (.ref P) H2 := by
  refine q _ _ _ _ (ext_apart_hd e2 hD) (relW_apart_hd w2 hd nf nr t) ?_
  simp only [Rep]
  exact ⟨P, by rw [← w2.len, List.getElem?_append_right (Nat.le_refl _), Nat.sub_self] <;> rfl, rfl⟩
end
theorem sd_comp (tg : IG) (own : List Nat) {elt it cond : IE} (he : Sd T N elt) (hi : Sd T N it) (hc : Sd T N cond) : Sd T N (.comp elt tg it cond own) := by
  refine Sd.of rfl rfl (fun {E sc k X ex} x h => ?_) (fun {sc ex} h => chkL_plain h)
  refine PE.imp (comp_pe he hi hc x h) fun σ H Q q => ?_
  obtain ⟨F, r, env, W, w, l, q⟩ := q
  refine ⟨F, r, env, W, w, l, _, q, fun D F1 r1 H1 F2 r2 H2 vs zs W3 hD e2 w2 nf nr hd t q => comp_fz hD e2 w2 nf nr hd t q⟩
theorem sd_mco (tg : IG) (own : List Nat) {elt it cond : IE} (he : Sd T N elt) (hi : Sd T N it) (hc : Sd T N cond) : Sd T N (.mco elt tg it cond own) := by
  refine Sd.of rfl rfl (fun {E sc k X ex} x h => ?_) (fun {sc ex} h => chkL_plain h)
  refine PE.imp (comp_pe he hi hc x h) fun σ H Q q => ?_
  obtain ⟨F, r, env, W, w, l, q⟩ := q
  refine ⟨F, r, env, W, w, l, _, q, fun D F1 r1 H1 F2 r2 H2 vs zs W3 hD e2 w2 nf nr hd t q => comp_mu hD e2 w2 nf nr hd t q⟩
end VI
-- VRev
set_option Elab.async false
set_option linter.all false
set_option maxRecDepth 100000
set_option maxHeartbeats 2000000
namespace VI
open PySem PySem.Spec PyProof.Rows L2 HT
section
variable {prog : Program} {w : World} {A : Around} {E : Value → Shared → Prop} {s : Shared}
theorem sliceApplied_rev {sl : Addr} {vl vu vs : Value} {n : Nat} {Q : Int × Int × Nat → Shared → Prop} (hs : s.heap.IsSliceOf sl vl vu vs) (pl : IsPart vl none) (pu : IsPart vu none) (ps : IsPart vs (some (-1)))
    (h : Q ((n : Int) - 1, -1, n) s) : wpAny (model prog w) A (Builtin.Slice.sliceApplied (.ref sl) (pure (n : Int))) Q E s := by
  obtain ⟨os, hos, hcs, hds⟩ := id hs
  unfold Builtin.Slice.sliceApplied Builtin.Slice.sliceFields
  refine wpAny_bind (wpAny_bind (wpAny_field hos hds (x := vl) rfl (wpAny_bind (wpAny_field hos hds (x := vu) rfl (wpAny_bind (wpAny_field hos hds (x := vs) rfl (wpAny_pure ?_)))))))
  refine wpAny_bind (slicePart_ ps ?_)
  show wpAny _ _ (if ((-1 : Int) == 0) = true then _ else _) _ _ s
  rw [if_neg (by decide)]
  refine wpAny_bind (slicePart_ pl (wpAny_bind (slicePart_ pu (wpAny_bind (wpAny_pure ?_)))))
  have hp : Builtin.Slice.slicePlaces ((n : Int) - 1) (-1) (-1) = n := by
    unfold Builtin.Slice.slicePlaces
    have h1 : ¬ ((-1 : Int) > 0) := by omega
    have h2 : (- -1 : Int) = 1 := by omega
    simp only [h1, if_false, h2, Int.ediv_one]
    split <;> omega
  have ha : Builtin.Slice.sliceAdjust none none (-1) (n : Int) = ((n : Int) - 1, -1) := by
    unfold Builtin.Slice.sliceAdjust
    rfl
  show wpAny _ _ (match Builtin.Slice.sliceAdjust none none (-1) (n : Int) with | (lo, hi) => pure (lo, (-1 : Int), Builtin.Slice.slicePlaces lo hi (-1))) _ _ s
  rw [ha]
  show wpAny _ _ (pure ((n : Int) - 1, (-1 : Int), Builtin.Slice.slicePlaces ((n : Int) - 1) (-1) (-1))) _ _ s
  rw [hp]
  exact wpAny_pure h
theorem fm_cong {α β : Type} {f g : α → Option β} : ∀ {l : List α}, (∀ m ∈ l, f m = g m) → l.filterMap f = l.filterMap g
  | [], _ => rfl
  | a :: l, h => by
    rw [List.filterMap_cons, List.filterMap_cons, h a List.mem_cons_self, fm_cong fun m hm => h m (List.mem_cons_of_mem _ hm)]
theorem pick_rev (xs : Array Value) : ((List.range xs.size).filterMap fun (m : Nat) => xs[((xs.size : Int) - 1 + (m : Int) * (-1)).toNat]?).toArray = xs.toList.reverse.toArray := by
  have e : (List.range xs.size).filterMap (fun (m : Nat) => xs[((xs.size : Int) - 1 + (m : Int) * (-1)).toNat]?) = ((List.range xs.size).map fun k => xs.size - 1 - k).filterMap (xs[·]?) := by
    rw [List.filterMap_map]
    refine fm_cong fun m hm => ?_
    have := List.mem_range.mp hm
    have e2 : ((xs.size : Int) - 1 + (m : Int) * (-1)).toNat = xs.size - 1 - m := by omega
    rw [e2]
    rfl
  rw [e, PySem.W.krv_range, List.filterMap_reverse, PySem.W.krv_all]
theorem getItem_tuple_rev {t sl : Addr} {items : Array Value} {vl vu vs : Value} {Q : Value → Shared → Prop} (ht : IsTup s.heap t items) (hs : s.heap.IsSliceOf sl vl vu vs) (pl : IsPart vl none) (pu : IsPart vu none) (ps : IsPart vs (some (-1)))
    (h : Q (.ref s.heap.objs.size) { s with heap := s.heap.push { cls := .type "tuple", data := .seq items.toList.reverse.toArray } })
    (hsz : items.size ≤ sizeLine) : wpAny (model prog w) A (getItem (.ref t) (.ref sl)) Q E s := by
  have htake : sizeOk (.seq items.toList.reverse.toArray) := by
    show items.toList.reverse.toArray.size ≤ sizeLine
    rw [List.size_toArray, List.length_reverse, Array.length_toList]
    exact hsz
  obtain ⟨os, hos, hcs, hds⟩ := id hs
  have hTs : s.TypeIs (.ref sl) "slice" := ⟨os, hos, hcs⟩
  unfold getItem
  try with_reducible refine wpAny_holding ?_
  first | refine wpAny_bind (wpAny_pure ?_) | skip
  refine wpAny_bind (wpAny_sequenceKey ht.typeIs (by decide) ?_)
  refine wpAny_bind (wpAny_callSpecial?_slot (name := Str.ofString "__getitem__") ht.typeIs PyProof.Rows.slot_tuple_getitem
    (wpAny_call_entry PyProof.Rows.slot_tuple_getitem ht.typeIs entry_tuple_getitem ?_ (args_tuple_getitem _ _)))
  show wpAny _ _ (Builtin.Tuple.tupleItemsOf (.ref t) >>= _) _ _ s
  refine wpAny_bind (tupleItemsOf_ ht ?_)
  refine wpAny_bind (wpAny_typeOf hTs ?_)
  rw [if_pos (by decide)]
  refine wpAny_bind (sliceApplied_rev hs pl pu ps ?_)
  have hno : ¬ ((((items.size : Int) - 1 == 0) && (-1 : Int) == 1 && items.size == items.size) = true) := by
    intro q
    rw [Bool.and_eq_true, Bool.and_eq_true] at q
    exact absurd q.1.2 (by decide)
  show wpAny _ _ (if (((items.size : Int) - 1 == 0) && (-1 : Int) == 1 && items.size == items.size) = true then _ else _) _ _ s
  rw [if_neg hno, pick_rev]
  first
    | exact wpAny_bind (m := Builtin.Tuple.tupleExact _) (wpAny_newObj_type (wpAny_pure ⟨_, rfl, wpAny_pure h⟩) htake)
    | exact wpAny_bind (m := Builtin.Tuple.tupleExact _) (wpAny_newObj_type (wpAny_bind (wpAny_pure (wpAny_pure ⟨_, rfl, wpAny_pure h⟩))) htake)
    | exact wpAny_bind (wpAny_bind (m := Builtin.Tuple.tupleExact _) (wpAny_newObj_type (wpAny_pure (wpAny_pure ⟨_, rfl, wpAny_pure h⟩)) htake))
    | exact wpAny_bind (wpAny_bind (m := Builtin.Tuple.tupleExact _) (wpAny_newObj_type (wpAny_pure ⟨_, rfl, wpAny_pure h⟩) htake))
end
def tRevA (K : PySem.W.Frag) (te : TE) : TE := fun σ H Q => te σ H fun x H1 => ∃ a xs, x = .ref a ∧ ((SqL K H1 a xs ∧ ∀ p, H1 p = none → Q (.ref p) (upd H1 p (.lst xs.reverse))) ∨ (SqT K H1 a xs ∧ ∀ p, H1 p = none → Q (.ref p) (upd H1 p (.tup xs.reverse))))
theorem pe_revA {X : Cx} {e : Expr} {te : TE} {k : Nat} {p1 p2 p3 pos : Pos} (he : PE X e te) : PE X (.Subscript e (.Slice none none (some (.UnaryOp .USub (.Constant (.int 1) k p1) p2)) p3) pos) (tRevA X.K te) := by
  refine ⟨fun pins s σ H Q I h => ?_⟩
  refine Subscript_ (thn (he.run pins s σ H _ I h) fun v s1 ⟨x, H1, I1, r1, q1⟩ => ?_)
  obtain ⟨a, xs, ex, q⟩ := q1
  subst ex
  cases r1
  have hst : PO X (some (.UnaryOp .USub (.Constant (.int 1) k p1) p2)) (tPart (tUn (rU fun i => .int (-i)) (tC (.int 1)))) := po_some (pe_un un_neg pe_int)
  refine wpAny_Slice (thn (po_none.run pins s1 σ H1 (fun o H2 => o = none ∧ H2 = H1) I1 ⟨rfl, rfl⟩) fun vl s2 ⟨l, H2, I2, pl, el, e2⟩ => ?_)
  subst el e2
  refine thn (po_none.run pins s2 σ H2 (fun o H3 => o = none ∧ H3 = H2) I2 ⟨rfl, rfl⟩) fun vu s3 ⟨u, H3, I3, pu, eu, e3⟩ => ?_
  subst eu e3
  refine thn (hst.run pins s3 σ H3 (fun o H4 => o = some (-1) ∧ H4 = H3) I3 ⟨1, rfl, -1, rfl, rfl, rfl⟩) fun vs s4 ⟨o, H4, I4, ps, eo, e4⟩ => ?_
  subst eo e4
  have I5 : Inv X pins σ H4 { s4 with heap := s4.heap.push { cls := .type "slice", data := .fields #[vl, vu, vs] } } := I4.kept (t' := s4.toks) fun b ob q => Heap.get?_push_of_some _ q
  show wpAny (model X.prog X.w) X.A (subscriptTail e (.Slice none none (some (.UnaryOp .USub (.Constant (.int 1) k p1) p2)) p3) (.ref a) (.ref s4.heap.objs.size)) (EP X pins σ Q) X.xe { s4 with heap := s4.heap.push { cls := .type "slice", data := .fields #[vl, vu, vs] } }
  rcases q with ⟨hx, q⟩ | ⟨hx, q⟩
  · obtain ⟨its, r, ht, hz⟩ := I5.list hx
    have hlen := r.length
    refine tail_any (ops := [.ref a, .ref s4.heap.objs.size]) ht.isList.typeIs (PySem.slot_list_getitem.lookup) ?_ (by with_unfolding_all rfl)
    refine wpAny_getItem_list_slice ht.isList (Heap.IsSliceOf.new _ vl vu vs) pl pu ps (by decide) ?_ (by rw [List.size_toArray]; omega)
    rw [PySem.W.krv_pick]
    refine ⟨.ref _, _, I5.laid (t' := s4.toks) (o := .lst xs.reverse) (fun b ob q => Heap.get?_push_of_some _ q) (Nat.le_refl _) ?_, rfl, q _ (I5.hok.fresh (Nat.le_refl _))⟩
    exact ⟨by rw [List.length_reverse]; exact hz, _, 0, r.reverse, Heap.get?_push_size _ rfl⟩
  · obtain ⟨its, r, ht, hz⟩ := I5.tuple hx
    have hlen := r.length
    refine tail_any (ops := [.ref a, .ref s4.heap.objs.size]) ht.typeIs (PyProof.Rows.slot_tuple_getitem.lookup) ?_ (by with_unfolding_all rfl)
    refine getItem_tuple_rev ht (Heap.IsSliceOf.new _ vl vu vs) pl pu ps ?_ (by rw [List.size_toArray]; omega)
    refine ⟨.ref _, _, I5.laid (t' := s4.toks) (o := .tup xs.reverse) (fun b ob q => Heap.get?_push_of_some _ q) (Nat.le_refl _) ?_, rfl, q _ (I5.hok.fresh (Nat.le_refl _))⟩
    exact ⟨by rw [List.length_reverse]; exact hz, _, r.reverse, IsTup.new _ _⟩
variable {T : Tab} {N : List Str} {E : XK}
theorem sd_rev {a : IE} (ha : Sd T N a) : Sd T N (.rev a) := by
  refine Sd.of rfl rfl (fun {E sc k X ex} x h => ?_) (fun {sc ex} h => ?_)
  · split at h
    · refine PE.imp (pe_revA (ha.e x h)) fun σ H Q q => ?_
      obtain ⟨F, r, env, W, w, l, q⟩ := q
      refine tI.use isP w l q fun d1 W1 F1 r1 H1 v1 e1 w1 l1 p1 q1 => ?_
      unfold pRev at q1
      split at q1
      · rename_i xs h1
        obtain ⟨p, vs, e, s, t⟩ := lookR_lst w1 p1 h1
        exact ⟨p, vs, e, .inl ⟨s, post_lst w1 t.reverse q1⟩⟩
      · rename_i xs h1
        obtain ⟨p, vs, e, s, t⟩ := look_tup p1 (lookR_tup h1)
        exact ⟨p, vs, e, .inr ⟨s, post_tup w1 t.reverse q1⟩⟩
      · exact q1.elim
    · cases h
  · split at h
    · rfl
    · cases h
end VI
-- VO
set_option Elab.async false
set_option linter.all false
set_option maxRecDepth 100000
set_option maxHeartbeats 2000000
namespace VI
open PySem PySem.Spec PyProof.Rows L2
variable {T : Tab} {N : List Str} {E : XK}

theorem sd_unk : Sd T N .unk where
  e := fun x h => pe_no
  t := fun x h => pt_no
  w := fun x h => pw_no
  a := fun x h => pa_no
  i := fun x h => pi_no

/-! ### ranges -/
theorem rangeL_len (lo c : Int) : ∀ (n k : Nat), (rangeL lo c k n).length = n
  | 0, _ => rfl
  | n + 1, k => by rw [rangeL, List.length_cons, rangeL_len]
theorem rangeL_get (lo c : Int) : ∀ (n k i : Nat) (x : D), (rangeL lo c k n)[i]? = some x → x = .int (lo + ((k + i : Nat) : Int) * c)
  | 0, _, _, _, h => by simp [rangeL] at h
  | n + 1, k, 0, x, h => by simp [rangeL] at h; rw [← h]; simp
  | n + 1, k, i + 1, x, h => by
    simp [rangeL] at h
    rw [rangeL_get lo c n (k + 1) i x h]
    congr 3
    omega
theorem iter_range {K : PySem.W.Frag} {G : Cls_} {F : Addr → Prop} {r : List Addr} {H : Hp} {lo : Int} {n : Nat} : IterOk K G (Itr lo n) (rangeL lo 1 0 n) F r H := by
  refine ⟨fun _ => True, YFn fun i => .int (lo + i), by rw [rangeL_len]; exact walk_range, fun _ _ _ _ => trivial, fun F' r' H' W' i x v H'' e w hx y => ?_⟩
  obtain ⟨rfl, rfl⟩ := y
  have := rangeL_get lo 1 n 0 i x hx
  subst this
  refine ⟨F', .refl, w, ?_⟩
  have e : lo + ((0 + i : Nat) : Int) * 1 = lo + i := by omega
  rw [e]
  exact rep_int
theorem small_ok {i : Int} (h : small62 i = true) : -(2 ^ 62) ≤ i ∧ i < 2 ^ 62 := by
  obtain ⟨h1, h2⟩ := bool_and h
  exact ⟨of_decide_eq_true h1, of_decide_eq_true h2⟩
theorem sd_rn1 {a : IE} (ha : Sd T N a) : Sd T N (.rn1 a) := by
  refine Sd.walk rfl rfl fun {E sc k X tg ex} x h => ?_
  split at h
  · obtain ⟨h1, h⟩ := bool_and h
    obtain ⟨h2, h⟩ := bool_and h
    obtain ⟨h3, h⟩ := bool_and h
    obtain ⟨h4, h5⟩ := bool_and h
    obtain ⟨g1, g2, g3⟩ := glB_ok x.hs h3
    have hx := of_decide_eq_true h1
    subst hx
    have hs := star_plain (es := []) (env := X.env) (not_true h4)
    refine ⟨fun pins s σ H R I q => (pi_range1 (tg := tg) g1 (x.fx.fre _ (of_decide_eq_true h2)) (pa_cons (ha.e x h5) pa_nil hs) hs).run pins s σ H R I ?_⟩
    obtain ⟨F, r, env, W, w, l, q⟩ := q
    refine tI.use isPI w l q fun d1 W1 F1 r1 H1 v1 e1 w1 l1 p1 q1 => ?_
    split at q1
    · rename_i j
      split at q1
      · rename_i hj
        obtain ⟨j1, j2⟩ := small_ok hj
        exact ⟨j, by rw [p1.int], j1, j2, q1 F1 r1 H1 _ .refl w1 iter_range⟩
      · exact q1.elim
    · exact q1.elim
  · cases h
theorem sd_rn2 {a b : IE} (ha : Sd T N a) (hb : Sd T N b) : Sd T N (.rn2 a b) := by
  refine Sd.walk rfl rfl fun {E sc k X tg ex} x h => ?_
  split at h
  · rename_i y p y1 y2 pos
    obtain ⟨h1, h⟩ := bool_and h
    obtain ⟨h2, h⟩ := bool_and h
    obtain ⟨h3, h⟩ := bool_and h
    obtain ⟨h4, h⟩ := bool_and h
    obtain ⟨h5, h⟩ := bool_and h
    obtain ⟨h6, h7⟩ := bool_and h
    obtain ⟨g1, g2, g3⟩ := glB_ok x.hs h3
    have hx := of_decide_eq_true h1
    subst hx
    have hs2 := star_plain (es := []) (env := X.env) (not_true h5)
    have hs := star_plain (es := [y2]) (env := X.env) (not_true h4)
    refine ⟨fun pins s σ H R I q => (pi_range2 (tg := tg) g1 (x.fx.fre _ (of_decide_eq_true h2)) (pa_cons (ha.e x h6) (pa_cons (hb.e x h7) pa_nil hs2) hs) (by rw [hs, hs2]; rfl) hs2).run pins s σ H R I ?_⟩
    obtain ⟨F, r, env, W, w, l, q⟩ := q
    refine tI.use isPI w l q fun d1 W1 F1 r1 H1 v1 e1 w1 l1 p1 q1 => ?_
    refine tI.use isPI w1 l1 q1 fun d2 W2 F2 r2 H2 v2 e2 w2 l2 p2 q2 => ?_
    split at q2
    · rename_i i j
      split at q2
      · rename_i hj
        obtain ⟨i1, i2⟩ := small_ok (bool_and hj).1
        obtain ⟨j1, j2⟩ := small_ok (bool_and hj).2
        exact ⟨i, j, by rw [p1.int, p2.int], ⟨i1, i2, j1, j2⟩, q2 F2 r2 H2 _ .refl w2 iter_range⟩
      · exact q2.elim
    · exact q2.elim
  · cases h

/-! ### enumerate, zip -/
theorem enumL_len : ∀ (xs : List D) (k : Nat), (enumL k xs).length = xs.length
  | [], _ => rfl
  | x :: xs, k => by rw [enumL, List.length_cons, List.length_cons, enumL_len]
theorem enumL_get : ∀ (xs : List D) (k i : Nat) (p : D), (enumL k xs)[i]? = some p → ∃ x, xs[i]? = some x ∧ p = .tup [.int ((k + i : Nat) : Int), x]
  | [], _, _, _, h => by simp [enumL] at h
  | x :: xs, k, 0, p, h => by simp [enumL] at h; exact ⟨x, by simp, by rw [← h]; simp⟩
  | x :: xs, k, i + 1, p, h => by
    simp [enumL] at h
    obtain ⟨y, h1, h2⟩ := enumL_get xs (k + 1) i p h
    refine ⟨y, by simpa using h1, ?_⟩
    rw [h2]
    congr 3
    have : k + 1 + i = k + (i + 1) := by omega
    rw [this]
theorem iter_pair {K : PySem.W.Frag} {G : Cls_} {F : Addr → Prop} {r : List Addr} {H : Hp} {J : It} {ps : List D} {n : Nat} {S : Hp → Prop} {f g : Nat → Option V} (wk : Walk J n S (YPair f g)) (hn : ps.length = n) (st : ∀ F' r' H', Ext F r H F' r' H' → S H')
    (hp : ∀ i p, ps[i]? = some p → ∃ x y u v, p = .tup [x, y] ∧ f i = some u ∧ g i = some v ∧ Rep K G F r H x u ∧ Rep K G F r H y v) : IterOk K G J ps F r H := by
  refine ⟨S, YPair f g, by rw [hn]; exact wk, st, fun F' r' H' W' i x v H'' e w hx y => ?_⟩
  obtain ⟨T, a, b, rfl, hT, rfl, ha, hb⟩ := y
  obtain ⟨x1, y1, u, v, rfl, hu, hv, p1, p2⟩ := hp i x hx
  rw [ha] at hu; cases hu
  rw [hb] at hv; cases hv
  obtain ⟨e2, w2, p3⟩ := new_tup w hT (.cons' (p1.mono e) (.cons' (p2.mono e) .nil'))
  exact ⟨_, e2, w2, p3⟩
theorem sd_enm {a : IE} (ha : Sd T N a) : Sd T N (.enm a) := by
  refine Sd.walk rfl rfl fun {E sc k X tg ex} x h => ?_
  split at h
  · rename_i elts kk tpos y p y1 pos
    obtain ⟨h1, h⟩ := bool_and h
    obtain ⟨h2, h⟩ := bool_and h
    obtain ⟨h3, h⟩ := bool_and h
    obtain ⟨h4, h5⟩ := bool_and h
    obtain ⟨g1, g2, g3⟩ := glB_ok x.hs h3
    have hx := of_decide_eq_true h1
    subst hx
    have hs := star_plain (es := []) (env := X.env) (not_true h4)
    refine ⟨fun pins s σ H R I q => (pi_enumT (kk := kk) (tpos := tpos) (elts := elts) g1 (x.fx.fre _ (of_decide_eq_true h2)) (pa_cons (ha.e x h5) pa_nil hs) hs).run pins s σ H R I ?_⟩
    obtain ⟨F, r, env, W, w, l, q⟩ := q
    refine tI.use isPI w l q fun d1 W1 F1 r1 H1 v1 e1 w1 l1 p1 q1 => ?_
    split at q1
    · rename_i xs
      obtain ⟨p, vs, rfl, st, t⟩ := stay_lst p1
      refine ⟨p, vs, rfl, .inl ⟨st _ _ _ .refl, q1 F1 r1 H1 _ .refl w1 (iter_pair walk_enum (by rw [enumL_len, t.length]) st fun i pp hp => ?_)⟩⟩
      obtain ⟨z, hz, rfl⟩ := enumL_get xs 0 i pp hp
      obtain ⟨u, hu, pu⟩ := t.get hz
      exact ⟨_, _, _, u, rfl, rfl, hu, by rw [Nat.zero_add]; exact rep_int, pu⟩
    · rename_i xs
      obtain ⟨p, vs, rfl, st, t⟩ := stay_tup p1
      refine ⟨p, vs, rfl, .inr ⟨st _ _ _ .refl, q1 F1 r1 H1 _ .refl w1 (iter_pair walk_enumT (by rw [enumL_len, t.length]) st fun i pp hp => ?_)⟩⟩
      obtain ⟨z, hz, rfl⟩ := enumL_get xs 0 i pp hp
      obtain ⟨u, hu, pu⟩ := t.get hz
      exact ⟨_, _, _, u, rfl, rfl, hu, by rw [Nat.zero_add]; exact rep_int, pu⟩
    · exact q1.elim
  · cases h
theorem zip_get {xs ys : List D} {i : Nat} {p : D} (h : (List.zipWith (fun p q => D.tup [p, q]) xs ys)[i]? = some p) : ∃ x y, xs[i]? = some x ∧ ys[i]? = some y ∧ p = .tup [x, y] := by
  rw [List.getElem?_zipWith] at h
  cases hx : xs[i]? with
  | none => rw [hx] at h; simp at h
  | some x =>
    cases hy : ys[i]? with
    | none => rw [hx, hy] at h; simp at h
    | some y => rw [hx, hy] at h; simp at h; exact ⟨x, y, rfl, rfl, h.symm⟩
theorem walk_zipT {K : PySem.W.Frag} {a b : Addr} {xs ys : List V} {n : Nat} (hn : n = min xs.length ys.length) : Walk (RZ.ItzT K a b) n (fun H => SqT K H a xs ∧ SqT K H b ys) (YPair (fun i => xs[i]?) (fun i => ys[i]?)) := by
  subst hn
  refine ⟨fun i _ hi q => ?_, fun _ q => ⟨xs, ys, q.1, q.2, by omega⟩, fun i H v H' _ q y => ?_⟩
  · have h1 : i < xs.length := by omega
    have h2 : i < ys.length := by omega
    exact ⟨xs, ys, xs[i], ys[i], q.1, q.2, by simp [h1], by simp [h2]⟩
  · obtain ⟨T, x, y, h1, h2, h3, h4, h5⟩ := y
    exact ⟨T, x, y, h1, h2, h3, h4 xs q.1, h5 ys q.2⟩
theorem sd_zip {a b : IE} (ha : Sd T N a) (hb : Sd T N b) : Sd T N (.zip a b) := by
  refine Sd.walk rfl rfl fun {E sc k X tg ex} x h => ?_
  split at h
  · rename_i elts kk tpos y p y1 y2 pos
    obtain ⟨h1, h⟩ := bool_and h
    obtain ⟨h2, h⟩ := bool_and h
    obtain ⟨h3, h⟩ := bool_and h
    obtain ⟨h4, h⟩ := bool_and h
    obtain ⟨h5, h⟩ := bool_and h
    obtain ⟨h6, h7⟩ := bool_and h
    obtain ⟨g1, g2, g3⟩ := glB_ok x.hs h3
    have hx := of_decide_eq_true h1
    subst hx
    have hs2 := star_plain (es := []) (env := X.env) (not_true h5)
    have hs := star_plain (es := [y2]) (env := X.env) (not_true h4)
    refine ⟨fun pins s σ H R I q => (RZ.pi_zipA (kk := kk) (tpos := tpos) (elts := elts) g1 (x.fx.fre _ (of_decide_eq_true h2)) (pa_cons (ha.e x h6) (pa_cons (hb.e x h7) pa_nil hs2) hs) hs (by rw [hs2]; rfl)).run pins s σ H R I ?_⟩
    obtain ⟨F, r, env, W, w, l, q⟩ := q
    refine tI.use isPI w l q fun d1 W1 F1 r1 H1 v1 e1 w1 l1 p1 q1 => ?_
    refine tI.use isPI w1 l1 q1 fun d2 W2 F2 r2 H2 v2 e2 w2 l2 p2 q2 => ?_
    split at q2
    · rename_i xs ys
      obtain ⟨p, vs, rfl, st, t⟩ := stay_lst (p1.mono e2)
      obtain ⟨p', vs', rfl, st', t'⟩ := stay_lst p2
      refine ⟨p, p', vs, vs', rfl, .inl ⟨st _ _ _ .refl, st' _ _ _ .refl, q2 F2 r2 H2 _ .refl w2 (iter_pair (walk_zip rfl) (by rw [List.length_zipWith, t.length, t'.length]) (fun F' r' H' e => ⟨st _ _ _ e, st' _ _ _ e⟩) fun i pp hp => ?_)⟩⟩
      obtain ⟨z, z', hz, hz', rfl⟩ := zip_get hp
      obtain ⟨u, hu, pu⟩ := t.get hz
      obtain ⟨u', hu', pu'⟩ := t'.get hz'
      exact ⟨_, _, u, u', rfl, hu, hu', pu, pu'⟩
    · rename_i xs ys
      obtain ⟨p, vs, rfl, st, t⟩ := stay_tup (p1.mono e2)
      obtain ⟨p', vs', rfl, st', t'⟩ := stay_tup p2
      refine ⟨p, p', vs, vs', rfl, .inr ⟨st _ _ _ .refl, st' _ _ _ .refl, q2 F2 r2 H2 _ .refl w2 (iter_pair (walk_zipT rfl) (by rw [List.length_zipWith, t.length, t'.length]) (fun F' r' H' e => ⟨st _ _ _ e, st' _ _ _ e⟩) fun i pp hp => ?_)⟩⟩
      obtain ⟨z, z', hz, hz', rfl⟩ := zip_get hp
      obtain ⟨u, hu, pu⟩ := t.get hz
      obtain ⟨u', hu', pu'⟩ := t'.get hz'
      exact ⟨_, _, u, u', rfl, hu, hu', pu, pu'⟩
    · exact q2.elim
  · cases h

/-! ### isinstance -/
theorem kitB_all : (tyMs.all fun m => tyNs.all fun n => kitB m n == some (tyB m n)) = true := by decide +kernel
theorem kitB_ok {m n : String} (h1 : m ∈ tyMs) (h2 : n ∈ tyNs) : kitB m n = some (tyB m n) := by
  have := kitB_all
  rw [List.all_eq_true] at this
  have := this m h1
  rw [List.all_eq_true] at this
  exact beq_iff_eq.mp (this n h2)
theorem boot_tys : (tyNs.all fun n => decide (bootBuiltins (Str.ofString n) = some (.type n))) = true := by decide +kernel
theorem boot_ty {n : String} (h : n ∈ tyNs) : bootBuiltins (Str.ofString n) = some (.type n) := by
  have := boot_tys
  rw [List.all_eq_true] at this
  exact of_decide_eq_true (this n h)
theorem tyNm_mem {d : D} {m : String} (h : tyNm d = some m) : m ∈ tyMs := by
  cases d <;> simp [tyNm] at h <;> subst h <;> simp [tyMs]
theorem tyX_of {X : Cx} {F : Addr → Prop} {r : List Addr} {H : Hp} {W : Wd} {d : D} {v : V} {m : String} (w : RelW X.K T.G F r H W) (p : Rep X.K T.G F r H d v) (h : tyNm (lookR W d) = some m) : TyX X.K H v (.type m) := by
  cases hl : lookR W d with
  | non =>
    rw [hl] at h; cases h
    rw [look_non p (lookR_same hl (fun _ e => nomatch e) (fun _ e => nomatch e))]
    exact .base .non
  | bl b =>
    rw [hl] at h; cases h
    rw [look_bl p (lookR_same hl (fun _ e => nomatch e) (fun _ e => nomatch e))]
    exact .base (.bl b)
  | int b =>
    rw [hl] at h; cases h
    rw [look_int p (lookR_same hl (fun _ e => nomatch e) (fun _ e => nomatch e))]
    exact .base (.int b)
  | str b =>
    rw [hl] at h; cases h
    rw [lookR_str p hl]
    exact .base (.str _)
  | lst xs =>
    rw [hl] at h; cases h
    obtain ⟨a, vs, rfl, s, _⟩ := lookR_lst w p hl
    rcases s with (s | ⟨o, s⟩) | ⟨o, its, n, h1, h2, _⟩
    · exact .base (.lst s)
    · exact .base (.frz s)
    · exact .kList h1 h2
  | tup xs =>
    rw [hl] at h; cases h
    obtain ⟨a, vs, rfl, s, _⟩ := look_tup p (lookR_tup hl)
    rcases s with (s | ⟨o, s⟩) | ⟨o, its, n, h1, h2, _⟩
    · exact .base (.tup s)
    · exact .fTuple s
    · exact .kTuple h1 h2
  | ins c xs => rw [hl] at h; cases h
  | hd n => rw [hl] at h; cases h
def okT (T : Tab) : TyC → Prop
  | .b n => n ∈ tyNs
  | .c c => ∃ x, T.n.cln[c]? = some x ∧ x ≠ ""
theorem tyx_all {X : Cx} {F : Addr → Prop} {r : List Addr} {H : Hp} {W : Wd} {d : D} {v : V} {t0 : TyC} {b0 : Bool} (fx : Facts T X.K X.mg) (w : RelW X.K T.G F r H W) (p : Rep X.K T.G F r H d v) (h : tyIs T.tb W t0 d = some b0) :
    ∃ tv, TyX X.K H v tv ∧ ∀ t b, okT T t → tyIs T.tb W t d = some b → PySem.W.kitOne X.K tv (tyV T t) = some b := by
  cases hl : lookR W d with
  | ins c xs =>
    have hl2 := lookR_same hl (fun _ e => nomatch e) (fun _ e => nomatch e)
    obtain ⟨a, dx, vs, rfl, hH, _⟩ := look_ins w p hl2
    unfold tyIs at h
    rw [hl] at h
    obtain ⟨_, f2, f3, f4, f5, f6⟩ := fx.isa c t0 b0 h
    refine ⟨_, .base (.ins hH f2 f3 f4 f5 f6), fun t b _ ht => ?_⟩
    unfold tyIs at ht
    rw [hl] at ht
    exact (fx.isa c t b ht).1
  | _ =>
    first
    | (have hm : ∃ m, tyNm (lookR W d) = some m := by rw [hl]; exact ⟨_, rfl⟩
       obtain ⟨m, hm⟩ := hm
       refine ⟨_, tyX_of w p hm, fun t b ho ht => ?_⟩
       have hmm := tyNm_mem hm
       unfold tyIs at ht
       rw [hl] at ht hm
       cases hm
       cases t with
       | b n =>
         simp only [tyNm] at ht
         rw [← ht]
         exact kit_ty (kitB_ok hmm ho)
       | c c =>
         simp only [tyNm] at ht
         cases ht
         obtain ⟨x, h1, h2⟩ := ho
         exact fx.isc c x h1 h2 _ hmm)
    | (exfalso
       unfold tyIs at h
       rw [hl] at h
       cases t0 <;> simp [tyNm] at h)
theorem any_kit {K : PySem.W.Frag} {W : Wd} {d : D} {tv : Value} : ∀ {ts : List TyC} {b : Bool}, (∀ t ∈ ts, okT T t) → anyTy T.tb W d ts = some b → (∀ t b, okT T t → tyIs T.tb W t d = some b → PySem.W.kitOne K tv (tyV T t) = some b) → PySem.W.kitAny K tv (ts.map (tyV T)) = some b
  | [], b, _, h, _ => by unfold anyTy at h; cases h; exact kitAny_nil
  | t :: ts, b, ho, h, hk => by
    unfold anyTy at h
    split at h
    · rename_i q; cases h; exact kitAny_cons (hk t true (ho t List.mem_cons_self) q) (fun e => nomatch e) fun _ => rfl
    · rename_i q; exact kitAny_cons (hk t false (ho t List.mem_cons_self) q) (fun _ => any_kit (fun t ht => ho t (List.mem_cons_of_mem _ ht)) h hk) (fun e => nomatch e)
    · cases h
theorem any_some {W : Wd} {d : D} {t : TyC} {ts : List TyC} {b : Bool} (h : anyTy T.tb W d (t :: ts) = some b) : ∃ b0, tyIs T.tb W t d = some b0 := by
  unfold anyTy at h
  split at h
  · rename_i q; exact ⟨_, q⟩
  · rename_i q; exact ⟨_, q⟩
  · cases h
theorem ty_name {X : Cx} {k : Nat} {sc : Scope} (x : XOk T E sc N k X) {t : TyC} {e : Expr} (h : chkT1 T.n sc t e = true) : ∃ c : V, PE X e (tC c) ∧ ClsV c (tyV T t) ∧ okT T t ∧ isSt e = false := by
  unfold chkT1 at h
  split at h
  · rename_i m y p
    obtain ⟨h1, h⟩ := bool_and h
    obtain ⟨h2, h⟩ := bool_and h
    obtain ⟨h3, h4⟩ := bool_and h
    obtain ⟨g1, g2, g3⟩ := glB_ok x.hs h4
    have hx := of_decide_eq_true h2
    have hm := of_decide_eq_true h1
    exact ⟨.ty m, pe_bltn g1 (x.fx.fre _ (of_decide_eq_true h3)) (by rw [hx]; exact boot_ty hm) rfl g3 g2, .ty m, hm, rfl⟩
  · rename_i c y p
    obtain ⟨h1, h⟩ := bool_and h
    obtain ⟨h2, h4⟩ := bool_and h
    obtain ⟨g1, g2, g3⟩ := glB_ok x.hs h4
    obtain ⟨m1, M⟩ := x.fx.mak c y (of_decide_eq_true h1) (bne_empty h2)
    exact ⟨.ref (T.G.clsA c), pe_glob g1 m1 rfl g2, .own _, ⟨y, of_decide_eq_true h1, bne_empty h2⟩, rfl⟩
  · cases h
theorem ty_names {X : Cx} {k : Nat} {sc : Scope} (x : XOk T E sc N k X) : ∀ {ts : List TyC} {es : List Expr}, chkTs T.n sc ts es = true → ∃ cs : List V, PA X es (fun σ H Q => Q cs H) ∧ Paired ClsV cs (ts.map (tyV T)) ∧ (∀ t ∈ ts, okT T t) ∧ cs.length = es.length
  | [], [], _ => ⟨[], pa_nil, .nil, fun _ h => absurd h (by simp), rfl⟩
  | [], _ :: _, h => absurd h (by simp [chkTs])
  | _ :: _, [], h => absurd h (by simp [chkTs])
  | t :: ts, e :: es, h => by
    unfold chkTs at h
    obtain ⟨h1, h2⟩ := bool_and h
    obtain ⟨c, p1, p2, p3, p4⟩ := ty_name x h1
    obtain ⟨cs, q1, q2, q3, q4⟩ := ty_names x h2
    refine ⟨c :: cs, PA.imp (pa_cons p1 q1 (star_plain p4)) fun σ H Q q => q, .cons p2 q2, fun t ht => ?_, by simp [q4]⟩
    rcases List.mem_cons.mp ht with e | e
    · rw [e]; exact p3
    · exact q3 t e
theorem sd_isi (ts : List TyC) {a : IE} (ha : Sd T N a) : Sd T N (.isi a ts) := by
  refine Sd.of rfl rfl (fun {E sc k X ex} x h => ?_) (fun {sc ex} h => ?_)
  · split at h
    · rename_i y p e1 e2 pos
      obtain ⟨h1, h⟩ := bool_and h
      obtain ⟨h2, h⟩ := bool_and h
      obtain ⟨h3, h⟩ := bool_and h
      obtain ⟨h4, h⟩ := bool_and h
      obtain ⟨h5, h⟩ := bool_and h
      obtain ⟨h6, h7⟩ := bool_and h
      obtain ⟨g1, g2, g3⟩ := glB_ok x.hs h3
      have hx := of_decide_eq_true h1
      have hm := x.fx.fre _ (of_decide_eq_true h2)
      subst hx
      have hs2 := star_plain (es := []) (env := X.env) (not_true h5)
      have hs := star_plain (es := [e2]) (env := X.env) (not_true h4)
      have hpl : (backTo pos (starEach [e2] X.env)).any (·.1) = false := by rw [hs2]; rfl
      have hb : bootBuiltins ("isinstance" : Str) = some (.builtin "isinstance") := by decide +kernel
      unfold chkT at h7
      split at h7
      · rename_i t z pz
        obtain ⟨c, p1, p2, p3, p4⟩ := ty_name x h7
        refine PE.imp (pe_callB call_isi g1 hm hb (pa_cons (ha.e x h6) (pa_cons p1 pa_nil hs2) hs) g3 g2 hs hpl) fun σ H Q q => ?_
        obtain ⟨F, r, env, W, w, l, q⟩ := q
        refine tI.use isP w l q fun d1 W1 F1 r1 H1 v1 e1 w1 l1 p1' q1 => ?_
        obtain ⟨k', hk, q2⟩ := rB_ok w1 q1
        obtain ⟨b0, hb0⟩ := any_some hk
        obtain ⟨tv, ty, hall⟩ := tyx_all x.fx w1 p1' hb0
        have : k' = b0 := by
          unfold anyTy at hk
          rw [hb0] at hk
          cases b0
          · simp only [anyTy] at hk; exact (Option.some.inj hk).symm
          · simp only at hk; exact (Option.some.inj hk).symm
        subst this
        exact ⟨v1, c, tv, _, k', rfl, p2, ty, hall _ k' p3 hb0, q2⟩
      · rename_i es pz1 pz2
        obtain ⟨hlen, h7⟩ := bool_and h7
        obtain ⟨cs, p1, p2, p3, p4⟩ := ty_names x h7
        refine PE.imp (pe_callB call_isiT g1 hm hb (pa_cons (ha.e x h6) (pa_cons (pe_tup p1) pa_nil hs2) hs) g3 g2 hs hpl) fun σ H Q q => ?_
        obtain ⟨F, r, env, W, w, l, q⟩ := q
        refine tI.use isP w l q fun d1 W1 F1 r1 H1 v1 e1 w1 l1 p1' q1 => ?_
        refine ⟨?_, fun tp htp => ?_⟩
        · obtain ⟨_, _, hz⟩ := (⟨trivial, trivial, p4⟩ : True ∧ True ∧ _)
          rw [hz]
          have := Nat.le_of_ble_eq_true hlen
          rw [sizeLine_eq]
          omega
        · have e2 := ext_new w1 htp (o := .tup cs)
          have w2 := relW_new w1 htp (o := .tup cs)
          have p2' := p1'.mono e2
          obtain ⟨k', hk, q2⟩ := rB_ok w1 q1
          obtain ⟨k2, hk2, q3⟩ := rB_ok w2 (isP.back _ _ _ _ _ _ _ w2.rh e2 q1)
          obtain ⟨b0, hb0⟩ := any_some hk2
          obtain ⟨tv, ty, hall⟩ := tyx_all x.fx w2 p2' hb0
          exact ⟨v1, tp, cs, tv, _, k2, rfl, upd_same, p2, ty, any_kit p3 hk2 hall, q3⟩
      · cases h7
    · cases h
  · split at h
    · rfl
    · cases h
end VI
-- VFm
set_option Elab.async false
set_option linter.all false
set_option maxRecDepth 100000
set_option maxHeartbeats 4000000
namespace VI
open PySem PySem.Spec PyProof.Rows L2
open Builtin Builtin.Str Builtin.Int Builtin.Float
theorem parse_r3 (name : String) : parseFormatSpec (Str.ofString ">3").cps.toList name 62 = .ok { align := 62, width := some 3 } := by
  with_unfolding_all rfl
theorem parse_l7 (name : String) : parseFormatSpec (Str.ofString "<7").cps.toList name 60 = .ok { align := 60, width := some 7 } := by
  with_unfolding_all rfl
theorem gives_cut {v : Value} {a : Int} {t : Tok} {k : String → Sem PySem.Fin} {m : Made} (g : Gives (k "int") m) : Gives (do let n ← typeNameOfCut 200 (.int a t); k n) m :=
  fun prog w A R s hq => wpAny_bind (wpAny_typeNameOfCut_int (g prog w A R s hq))
theorem typeName_str : typeName (.type "str") = pure "str" := by unfold typeName; rw [find?_eq_fast]; kernel_rfl
theorem gives_cutS {x : Str} {t : Tok} {k : String → Sem PySem.Fin} {m : Made} (g : Gives (k "str") m) : Gives (do let n ← typeNameOfCut 200 (.str x t); k n) m := fun prog w A R s hq => by
  refine wpAny_bind ?_
  unfold typeNameOfCut shownTypeOf
  refine wpAny_bind (wpAny_bind (wpAny_typeOf (typeIs_str _ x t) ?_))
  simp only [show (Value.type "str" == Value.type "builtin_function_or_method") = false by decide, Bool.false_eq_true, if_false]
  refine wpAny_pure ?_
  rw [show typeNameCut 200 (.type "str") = typeName (.type "str") from rfl, typeName_str]
  exact wpAny_pure (g prog w A R s hq)
def pad3 (n : Nat) : Str := ⟨#[32, 32, 48 + n]⟩
theorem gives_int_r3 (n : Nat) (t u : Tok) (h : n < 10) : Gives («int.__format__» ⟨[.int n t, .str (Str.ofString ">3") u], []⟩) (.str (pad3 n)) := by
  show Gives (do let _kind ← typeNameOf (.str (Str.ofString ">3") u); _) _
  refine gives_after_typeNameOf (T := "str") (fun s => typeIs_str s _ _) (by decide) fun k => ?_
  show Gives (do let nm ← typeNameOfCut 200 (.int n t); _) _
  refine gives_cut (v := .none) ?_
  simp only [parse_r3]
  match n, h with
  | 0, _ => exact .of_eq (by with_unfolding_all rfl)
  | 1, _ => exact .of_eq (by with_unfolding_all rfl)
  | 2, _ => exact .of_eq (by with_unfolding_all rfl)
  | 3, _ => exact .of_eq (by with_unfolding_all rfl)
  | 4, _ => exact .of_eq (by with_unfolding_all rfl)
  | 5, _ => exact .of_eq (by with_unfolding_all rfl)
  | 6, _ => exact .of_eq (by with_unfolding_all rfl)
  | 7, _ => exact .of_eq (by with_unfolding_all rfl)
  | 8, _ => exact .of_eq (by with_unfolding_all rfl)
  | 9, _ => exact .of_eq (by with_unfolding_all rfl)
theorem field_l7 (x : Str) (name : String) : strField x { align := 60, width := some 7 } name = .ok (if 7 ≤ x.length then none else some (padded x 0 (7 - x.length) 32)) := by
  by_cases h : 7 ≤ x.length
  · rw [if_pos h]
    simp [strField, h]
    rfl
  · rw [if_neg h]
    have e : strSub x 0 x.length = x := by
      simp [strSub, Str.length]
    simp [strField, h, e]
    rfl
theorem gives_str_l7 (x : Str) (t u : Tok) : Gives («str.__format__» ⟨[.str x t, .str (Str.ofString "<7") u], []⟩) (if 7 ≤ x.length then .val (.str x t) else .str (padded x 0 (7 - x.length) 32)) := by
  unfold «str.__format__»
  simp only [strOneArg, selfAndOne, noKeywords, textOf, asStr?, List.isEmpty_nil, if_true, pure_bind, bind_pure, bind_assoc, show ((Str.ofString "<7").length == 0) = false from by decide, Bool.false_eq_true, if_false]
  rw [if_neg (by decide)]
  refine gives_cutS ?_
  have e1 : (Option.isNone (none : Option Nat) && (Str.ofString "<7").cps.back? == some 0) = false := by decide
  have e2 : tooLong (Option.getD (some 7) 0) = false := by decide
  simp only [parse_l7, bind, Except.bind, e1, e2, Bool.false_eq_true, if_false, field_l7]
  by_cases h : 7 ≤ x.length
  · rw [if_pos h, if_pos h]
    exact .rule (.of_eq rfl)
  · rw [if_neg h, if_neg h]
    exact .of_eq rfl
section
variable {X : Cx} {e : Expr} {te : TE} {pos p1 p2 : Pos} {k : Nat}
/-- an int of one digit, to the right of three -/
def tR3 (te : TE) : TE := fun σ H Q => te σ H fun x H1 => ∃ n : Nat, n < 10 ∧ x = .int n ∧ Q (.str (pad3 n)) H1
def tL7 (te : TE) : TE := fun σ H Q => te σ H fun x H1 => ∃ y : Str, x = .str y ∧ y.length + 7 ≤ sizeLine ∧ Q (.str ⟨y.cps ++ Array.replicate (7 - y.length) 32⟩) H1
theorem pe_r3 (he : PE X e te) : PE X (.FormattedValue e (-1) (some (.JoinedStr [.Constant (.str ">3") k p1] p2)) pos) (tR3 te) := by
  refine ⟨fun pins s σ H Q I h => ?_⟩
  refine wpAny_FormattedValue_spec (thn (he.run pins s σ H _ I h) fun v s1 ⟨x, H1, I1, r1, n, hn, ex, q⟩ => ?_)
  subst ex
  obtain ⟨t, rfl⟩ := r1
  refine JoinedStr_one (Calls.Constant_str ⟨_, _, rfl, ?_⟩)
  refine wpAny_formatField_spec (by decide) (fun s' => typeIs_int s' n t) F.slot_int_format F.entry_int_format F.args_int_format_2 (fun u => gives_int_r3 n t u hn) ?_ (by decide) (by show 3 ≤ sizeLine; decide)
  exact ⟨.str (pad3 n), H1, ((I1.tok _).tok _), ⟨_, rfl⟩, q⟩
theorem pe_l7 (he : PE X e te) : PE X (.FormattedValue e (-1) (some (.JoinedStr [.Constant (.str "<7") k p1] p2)) pos) (tL7 te) := by
  refine ⟨fun pins s σ H Q I h => ?_⟩
  refine wpAny_FormattedValue_spec (thn (he.run pins s σ H _ I h) fun v s1 ⟨x, H1, I1, r1, y, ex, hz, q⟩ => ?_)
  subst ex
  obtain ⟨t, rfl⟩ := r1
  refine JoinedStr_one (Calls.Constant_str ⟨_, _, rfl, ?_⟩)
  by_cases h7 : 7 ≤ y.length
  · have e0 : (⟨y.cps ++ Array.replicate (7 - y.length) 32⟩ : Str) = y := by
      have : 7 - y.length = 0 := by omega
      rw [this]; simp
    rw [e0] at q
    have e : formatField (.str y t) (Str.ofString "<7") = holding [.str y t] (pyFormat (.str y t) (Str.ofString "<7")) := rfl
    rw [e]
    refine wpAny_holding ?_
    unfold pyFormat
    refine wpAny_bind (wpAny_mkStr ?_ (by decide))
    refine wpAny_bind (m := callSpecial? (.str y t) (Str.ofString "__format__") [.str (Str.ofString "<7") _]) (wpAny_callSpecial?_slot (name := Str.ofString "__format__") (typeIs_str _ y t) F.slot_str_format
      (call_gives F.slot_str_format (typeIs_str _ y t) F.entry_str_format (F.args_str_format_2 _ _) (gives_str_l7 y t _) ?_))
    rw [if_pos h7]
    refine wpAny_bind (wpAny_isInstance (T := "str") (b := true) rfl isSubtype_str_str (wpAny_pure ?_))
    exact ⟨.str y, H1, ((I1.tok _).tok _), ⟨t, rfl⟩, q⟩
  · have e0 : (⟨y.cps ++ Array.replicate (7 - y.length) 32⟩ : Str) = padded y 0 (7 - y.length) 32 := by
      simp [padded]
    rw [e0] at q
    refine wpAny_formatField_spec (by decide) (fun s' => typeIs_str s' y t) F.slot_str_format F.entry_str_format F.args_str_format_2 (fun u => by have := gives_str_l7 y t u; rw [if_neg h7] at this; exact this) ?_ (by decide) ?_
    · exact ⟨.str (padded y 0 (7 - y.length) 32), H1, ((I1.tok _).tok _), ⟨_, rfl⟩, q⟩
    · have : (padded y 0 (7 - y.length) 32).length = y.length + (7 - y.length) := by
        rw [← e0]; simp [Str.length]
      omega
end
end VI
-- VP
set_option Elab.async false
set_option linter.all false
set_option maxRecDepth 100000
set_option maxHeartbeats 2000000
namespace VI
open PySem PySem.Spec PyProof.Rows L2
variable {T : Tab} {N : List Str} {E : XK}

/-! ### len of an instance, a class's constants -/
theorem call_lenOwn {X : Cx} {k : Nat} {C g : Addr} {sp : Sp} (M : LenM X.K C g) (F : FnR X.prog X.w X.K X.mg X.base (CX X.prog X.w) k g sp) (hr : Room (k + 1) X.A) (hx : Passes (CX X.prog X.w) X E) :
    CallR X (.builtin "len") (fun xs H Q => ∃ a dx fs, xs = [V.ref a] ∧ H a = some (.ins C dx fs) ∧ sp [.ref a] H (fun z H' => ∃ n : Nat, z = .int n ∧ (n : Int) < 2 ^ 62 ∧ Q z H') E) := by
  intro pins s σ H xs us Q I r h
  obtain ⟨a, dx, fs, rfl, ea, q⟩ := h
  obtain ⟨u, rfl, ru⟩ := r.one
  cases (show u = Value.ref a from ru)
  obtain ⟨mA, O, _⟩ := ins_get I.hok ea
  obtain ⟨od, J, _⟩ := O.look
  refine Calls.call_function_entry kind_len plain_len entry_len (args_len1 _) ?_
  unfold Builtin.«len»
  refine wpAny_bind (m := oneArg "len" _) (wpAny_pure ?_)
  refine wpAny_bind (m := callSpecial? (.ref a) (PySem.Str.ofString "__len__")) (PySem.W.special_fn I.kIn J M.1 (beq_iff_eq.mp M.2) (wpAny_mono (wpAny_call (SlX.run_at (us := [.ref a]) (ws := [.ref a]) F (Room.in1 hr) I.env0.in1 hx I (.cons rfl .nil) q)) (fun w s' z => ?_) fun _ _ y => y))
  obtain ⟨z', H', I', rz, n, ei, hn, qz⟩ := z
  subst ei
  obtain ⟨t, e⟩ := (show ∃ t, w = Value.int n t from rz)
  cases e
  refine wpAny_bind (wpAny_holding (wpAny_pure ?_))
  refine wpAny_bind (wpAny_letGo ?_)
  show wpAny _ _ (if ((n : Nat) : Int) < 0 then _ else _) _ _ _
  rw [if_neg (by omega)]
  show wpAny _ _ (if ((n : Nat) : Int) ≥ 2 ^ 63 then _ else _) _ _ _
  rw [if_neg (by omega)]
  exact wpAny_bind (wpAny_mkInt (wpAny_pure ⟨_, rfl, .int n, H', I'.tok _, ⟨_, rfl⟩, qz⟩))
theorem sd_lni {a : IE} (ha : Sd T N a) : Sd T N (.lni a) := by
  refine Sd.of rfl rfl (fun {E sc k X ex} x h => ?_) (fun {sc ex} h => ?_)
  · split at h
    · obtain ⟨h1, h⟩ := bool_and h
      obtain ⟨h2, h⟩ := bool_and h
      obtain ⟨h3, h⟩ := bool_and h
      obtain ⟨h4, h5⟩ := bool_and h
      obtain ⟨g1, g2, g3⟩ := glB_ok x.hs h3
      have hx := of_decide_eq_true h1
      have hs := star_plain (es := []) (env := X.env) (not_true h4)
      refine PE.imp (pe_callB (id := "len") callEx g1 (x.fx.fre _ (of_decide_eq_true h2)) (by rw [hx]; exact boot_b .len) (pa_cons (ha.e x h5) pa_nil hs) g3 g2 hs rfl) fun σ H Q q => ?_
      obtain ⟨F, r, env, W, w, l, q⟩ := q
      refine tI.use isP w l q fun d1 W1 F1 r1 H1 v1 e1 w1 l1 p1 q1 => ?_
      split at q1
      · rename_i c xs hl
        obtain ⟨p, dx, vs, e, hH, t⟩ := look_ins w1 p1 hl
        split at q1
        · rename_i f hf
          obtain ⟨_, M⟩ := x.fx.lnm c f hf
          subst e
          refine ⟨_, call_lenOwn M (x.cls f) x.room x.pass, p, dx, _, rfl, hH, F1, r1, W1, [d1], w1, .cons' p1 .nil', ?_⟩
          cases z : T.tb.cl f [d1] W1 with
          | no => rw [z] at q1; exact q1
          | exc cc ys W2 => rw [z] at q1; exact q1
          | ok d W2 =>
            rw [z] at q1
            intro F' r' H' v e' w' pv
            simp only [Res.bind] at q1
            split at q1
            · rename_i i
              split at q1
              · rename_i hi
                obtain ⟨i1, i2⟩ := bool_and hi
                have i1 := of_decide_eq_true i1
                refine ⟨i.toNat, by rw [pv.int]; congr 1; omega, by have := of_decide_eq_true i2; omega, q1 F' r' H' v e' w' pv⟩
              · exact q1.elim
            · exact q1.elim
        · exact q1.elim
      · exact q1.elim
    · cases h
  · split at h
    · rfl
    · cases h
theorem sd_cat (c m : Nat) : Sd T N (.cat c m) := by
  refine Sd.of rfl rfl (fun {E sc k X ex} x h => ?_) (fun {sc ex} h => ?_)
  · split at h
    · rename_i y p nm pos
      obtain ⟨h1, h⟩ := bool_and h
      obtain ⟨h2, h⟩ := bool_and h
      obtain ⟨h3, h4⟩ := bool_and h
      obtain ⟨g1, g2, g3⟩ := glB_ok x.hs h4
      obtain ⟨m1, M⟩ := x.fx.mak c y (of_decide_eq_true h2) (bne_empty h3)
      refine PE.imp (ClX.pe_cval (pe_glob (v := V.ref (T.G.clsA c)) g1 m1 rfl g2)) fun σ H Q q => ?_
      obtain ⟨F, r, env, W, w, l, q⟩ := q
      simp only at q
      split at q
      · rename_i d hd
        obtain ⟨z, v, e1, ⟨mc, u, cr, cv⟩, rp⟩ := x.fx.cat c m d hd
        rw [of_decide_eq_true h1] at e1
        cases e1
        exact ⟨T.G.clsA c, mc, v, u, rfl, cr, cv, post_pure w (rp F r H) q⟩
      · exact q.elim
    · cases h
  · split at h
    · rfl
    · cases h
theorem sd_calK (f : Nat) (kn : String) {a : IE} (ha : Sd T N a) : Sd T N (.calK f a kn) := by
  refine Sd.of rfl rfl (fun {E sc k X ex} x h => ?_) (fun {sc ex} h => ?_)
  · split at h
    · rename_i y p kw z kp pos
      obtain ⟨h1, h⟩ := bool_and h
      obtain ⟨h2, h3⟩ := bool_and h
      obtain ⟨g1, g2, g3⟩ := glB_ok x.hs h2
      obtain ⟨m1, m2, fk⟩ := x.clk f y kw (of_decide_eq_true h1)
      refine ⟨fun pins s σ H Q I q => ?_⟩
      obtain ⟨F, r, env, W, w, l, q⟩ := q
      have q : Post X.K T.G E Q F r H (((ev T.tb a).e env W).bind fun d W1 => T.tb.ck f [d] W1) := q
      refine wpAny_Call_Name_kw (ld_glob I g1 m1 ?_ g2)
      refine PySem.W.callWith_KW0 (h₀ := X.base) I.ok.mod.kin m2 rfl (thn ((pk_cons (nm := some kw) (kpos := kp) (ha.e x h3) pk_nil).run pos pins s σ H (fun vs H1 => ∃ v, vs = [v] ∧ spR X.K T.G (T.tb.ck f) [v] H1 Q E) I ?_) fun us s1 ⟨vs, H1, I1, r1, v, ev, q1⟩ => ?_) rfl
      · show tI X.K T.G E (ev T.tb a).e σ H fun x H1 => ∃ v, [x] = [v] ∧ spR X.K T.G (T.tb.ck f) [v] H1 Q E
        exact tI.use isP w l q fun d1 W1 F1 r1 H1 v1 e1 w1 l1 p1 q1 => ⟨v1, rfl, F1, r1, W1, [d1], w1, .cons' p1 .nil', q1⟩
      · subst ev
        cases r1 with
        | cons r r2 =>
          cases r2
          refine ⟨I1.kIn, wpAny_call (codeAny_mono (fk X.A X.stack s1 H1 _ v Q E (x.room.mono (Nat.le_succ _)) I1.env0 r q1) fun rr s' hq => ?_)⟩
          cases rr with
          | error e => exact x.pass pins σ H1 s1 e s' I1 hq
          | ok fl =>
            cases fl with
            | ret u => exact I1.after hq
            | next => exact False.elim hq
            | brk => exact False.elim hq
            | cont => exact False.elim hq
    · cases h
  · split at h
    · rfl
    · cases h
theorem sd_fmt (f : Fm) {a : IE} (ha : Sd T N a) : Sd T N (.fmt f a) := by
  refine Sd.of rfl rfl (fun {E sc k X ex} x h => ?_) (fun {sc ex} h => ?_)
  · split at h
    · obtain ⟨h1, h2⟩ := bool_and h
      cases of_decide_eq_true h1
      refine PE.imp (pe_fmt (ha.e x h2)) fun σ H Q q => ?_
      obtain ⟨F, r, env, W, w, l, q⟩ := q
      refine tI.use isP w l q fun d1 W1 F1 r1 H1 v1 e1 w1 l1 p1 q1 => ?_
      cases d1 with
      | str z =>
        simp only [fmtD] at q1
        split at q1
        · rename_i hz
          exact .inl ⟨_, p1.str, by simp only [Str.length, List.size_toArray]; exact fits_le hz, post_pure w1 rep_str q1⟩
        · exact q1.elim
      | int i =>
        simp only [fmtD] at q1
        split at q1
        · rename_i hz
          exact .inr ⟨i, p1.int, by have := Nat.le_of_ble_eq_true hz; omega, post_pure w1 (rep_ofStr _) q1⟩
        · exact q1.elim
      | _ => exact q1.elim
    · obtain ⟨h1, h⟩ := bool_and h
      obtain ⟨h2, h3⟩ := bool_and h
      cases of_decide_eq_true h1
      cases of_decide_eq_true h2
      refine PE.imp (pe_l7 (ha.e x h3)) fun σ H Q q => ?_
      obtain ⟨F, r, env, W, w, l, q⟩ := q
      refine tI.use isP w l q fun d1 W1 F1 r1 H1 v1 e1 w1 l1 p1 q1 => ?_
      cases d1 with
      | str z =>
        simp only [fmtD] at q1
        split at q1
        · rename_i hz
          refine ⟨_, p1.str, by simp only [Str.length, List.size_toArray]; exact fits_le hz, post_pure w1 ?_ q1⟩
          have e : (⟨z.toArray ++ Array.replicate (7 - (⟨z.toArray⟩ : Str).length) 32⟩ : Str) = ⟨(z ++ List.replicate (7 - z.length) 32).toArray⟩ := by
            simp [Str.length, List.append_toArray]
          show Rep _ _ _ _ _ _ (.str (⟨z.toArray ++ Array.replicate (7 - (⟨z.toArray⟩ : Str).length) 32⟩ : Str))
          rw [e]
          exact rep_str
        · exact q1.elim
      | _ => exact q1.elim
    · obtain ⟨h1, h⟩ := bool_and h
      obtain ⟨h2, h3⟩ := bool_and h
      cases of_decide_eq_true h1
      cases of_decide_eq_true h2
      refine PE.imp (pe_r3 (ha.e x h3)) fun σ H Q q => ?_
      obtain ⟨F, r, env, W, w, l, q⟩ := q
      refine tI.use isP w l q fun d1 W1 F1 r1 H1 v1 e1 w1 l1 p1 q1 => ?_
      cases d1 with
      | int i =>
        simp only [fmtD] at q1
        split at q1
        · rename_i hz
          obtain ⟨i1, i2⟩ := bool_and hz
          have i1 := of_decide_eq_true i1
          have i2 := of_decide_eq_true i2
          have ei : ((i.toNat : Nat) : Int) = i := by omega
          exact ⟨i.toNat, by omega, by rw [p1.int, ei], post_pure w1 rep_str q1⟩
        · exact q1.elim
      | _ => exact q1.elim
    · cases h
  · split at h
    · rfl
    · rfl
    · rfl
    · cases h
theorem setH {X : Cx} {F : Addr → Prop} {r : List Addr} {H : Hp} {W : Wd} {n : Nat} {v : V} {xs : List D} (w : RelW X.K T.G F r H W) (p : Rep X.K T.G F r H (.hd n) v) (hw : W[n]? = some (.lst xs)) :
    ∃ a vs, r[n]? = some a ∧ v = .ref a ∧ H a = some (.lst vs) ∧ ¬ F a ∧ RepL X.K T.G F r H xs vs := by
  obtain ⟨a, ha, rfl⟩ := p.hd
  rcases w.ok n _ a hw ha with z | ⟨nf, vs, hs, t⟩
  · cases z
  · exact ⟨a, vs, ha, rfl, hs, nf, t⟩
theorem sd_app {a b : IE} (ha : Sd T N a) (hb : Sd T N b) : Sd T N (.app a b) := by
  refine Sd.of rfl rfl (fun {E sc k X ex} x h => ?_) (fun {sc ex} h => ?_)
  · split at h
    · obtain ⟨h1, h⟩ := bool_and h
      obtain ⟨h2, h⟩ := bool_and h
      obtain ⟨h3, h⟩ := bool_and h
      obtain ⟨h4, h⟩ := bool_and h
      obtain ⟨h5, h6⟩ := bool_and h
      cases of_decide_eq_true h1
      have hs := star_plain (es := []) (env := X.env) (not_true h3)
      refine PE.imp (pe_bm (T := "list") F.plainAttrs_list F.slot_list_append F.type_list_append mt_append (ha.e x h5) (pa_cons (hb.e x h6) pa_nil hs) (base_plain h2) (by rw [hs]; rfl) h4 hs rfl) fun σ H Q q => ?_
      obtain ⟨F, r, env, W, w, l, q⟩ := q
      refine tI.use isP w l q fun d1 W1 F1 r1 H1 v1 e1 w1 l1 p1 q1 => ?_
      split at q1
      · rename_i n
        split at q1
        · rename_i xs0 hw0
          obtain ⟨a0, vs0, hr0, ev0, hH0, nf0, t0⟩ := setH w1 p1 hw0
          subst ev0
          refine ⟨.inl ⟨rfl, vs0, .of hH0⟩, ?_⟩
          refine tI.use isP w1 l1 q1 fun d2 W2 F2 r2 H2 v2 e2 w2 l2 p2 q2 => ?_
          split at q2
          · rename_i xs hw
            obtain ⟨a1, vs, hr1, ev1, hH, nf, t⟩ := setH w2 (p1.mono e2) hw
            cases ev1
            split at q2
            · rename_i hz
              have hz := fits_le hz
              refine ⟨a0, vs, v2, rfl, rfl, hH, by rw [← t.length]; omega, ?_⟩
              have e3 := ext_set (o := .lst (vs ++ [v2])) w2 hw (fun e => nomatch e) hr1
              refine q2 F2 r2 _ .non e3 (relW_set w2 hw (fun e => nomatch e) hr1 ⟨_, upd_same, RepL.mono e3 (t.append (.cons' p2 .nil'))⟩) rep_non
            · exact q2.elim
          · exact q2.elim
        · exact q1.elim
      · exact q1.elim
    · cases h
  · split at h
    · rfl
    · cases h
theorem sd_dead {ir : IE} (hc : chk T.n N ir = cE fun _ _ => false) : Sd T N ir where
  e := fun x h => by rw [hc] at h; exact absurd h Bool.false_ne_true
  t := fun x h => by rw [hc] at h; exact absurd h Bool.false_ne_true
  w := fun x h => by rw [hc] at h; exact absurd h Bool.false_ne_true
  a := fun x h => by rw [hc] at h; exact absurd h Bool.false_ne_true
  i := fun {E sc k X tg ex} x h => by
    rw [hc] at h
    have h2 : (false && !isSet ex) = true := h
    exact absurd h2 Bool.false_ne_true
  j := fun x h => by rw [hc] at h; exact absurd h Bool.false_ne_true
theorem sd : ∀ ir : IE, Sd T N ir
  | .var i => sd_var i
  | .con d => sd_con d
  | .glo g => sd_glo g
  | .bin o a b => sd_bin o (sd a) (sd b)
  | .neg a => sd_neg (sd a)
  | .cmp o a b => sd_cmp o (sd a) (sd b)
  | .chn o p a b c => sd_chn o p (sd a) (sd b) (sd c)
  | .and a b => sd_and (sd a) (sd b)
  | .or a b => sd_or (sd a) (sd b)
  | .not a => sd_not (sd a)
  | .ife c a b => sd_ife (sd c) (sd a) (sd b)
  | .sub a i => sd_sub (sd a) (sd i)
  | .sli a l h => sd_sli (sd a) (sd l) (sd h)
  | .rev a => sd_rev (sd a)
  | .non => sd_non
  | .tup es => sd_tup (sd es)
  | .lst es => sd_lst (sd es)
  | .nil => sd_nil
  | .cons e r => sd_cons (sd e) (sd r)
  | .star e r => sd_star (sd e) (sd r)
  | .blt b es => sd_blt b (sd es)
  | .isi e ts => sd_isi ts (sd e)
  | .join o e => sd_join (sd o) (sd e)
  | .call f es => sd_call f (sd es)
  | .meth m o es => sd_meth m (sd o) (sd es)
  | .att m o => sd_att m (sd o)
  | .frz e => sd_frz (sd e)
  | .one e => sd_one (sd e)
  | .make c fz es => sd_make c fz (sd es)
  | .calS f e => sd_calS f (sd e)
  | .makS c fz e => sd_makS c fz (sd e)
  | .calK f e kw => sd_calK f kw (sd e)
  | .mls es => sd_mls (sd es)
  | .adm a b => sd_adm (sd a) (sd b)
  | .mli e => sd_mli (sd e)
  | .mco elt tg it cond own => sd_mco tg own (sd elt) (sd it) (sd cond)
  | .lni e => sd_lni (sd e)
  | .fsp es => sd_fsp (sd es)
  | .fpn => sd_fpn
  | .fpc e r => sd_fpc (sd e) (sd r)
  | .fmt f e => sd_fmt f (sd e)
  | .unk => sd_unk
  | .cat c m => sd_cat c m
  | .app o e => sd_app (sd o) (sd e)
  | .comp elt tg it cond own => sd_comp tg own (sd elt) (sd it) (sd cond)
  | .rn1 a => sd_rn1 (sd a)
  | .rn2 a b => sd_rn2 (sd a) (sd b)
  | .enm e => sd_enm (sd e)
  | .zip a b => sd_zip (sd a) (sd b)
end VI
-- VS
set_option Elab.async false
set_option linter.all false
set_option maxRecDepth 100000
set_option maxHeartbeats 2000000
namespace VI
open PySem PySem.Spec PyProof.Rows L2

/-! ### statements -/
inductive SE where
  | skip | nil
  | seq (a b : SE)
  | ex (e : IE) | ret (e : IE) | retN
  | set (g : IG) (e : IE)
  | par (is : List Nat) (es : IE)
  | sct (i : Nat) (fz : Bool) (elt : IE) (tg : IG) (it cond : IE) (own : List Nat)
  | ite (c : IE) (a b : SE)
  | forr (g : IG) (it : IE) (b : SE)
  | forw (g : IG) (m : Nat) (o : IE) (b : SE)
  | whl (c : IE) (b : SE)
  | brk | cnt
  | gho (i : Nat) (s : SE)
  | aug (o : Operator) (i : Nat) (e : IE)
  | sti (o i e : IE)
  | sta (m : Nat) (o e : IE)
  | unk
inductive SR where
  | nx (env : EnvD) (W : Wd) | ret (d : D) (W : Wd) | brk (env : EnvD) (W : Wd) | ct (env : EnvD) (W : Wd)
  | exc (c : Nat) (xs : List D) (W : Wd) | no
/-- a value of an evaluation, then a statement's rest -/
def Res.on {α : Type} (r : Res α) (f : α → Wd → SR) : SR := match r with
  | .ok x W => f x W
  | .exc c xs W => .exc c xs W
  | .no => .no
def SR.then (r : SR) (f : EnvD → Wd → SR) : SR := match r with
  | .nx env W => f env W
  | r => r
def forL (g : IG) (body : EnvD → Wd → SR) : List D → EnvD → Wd → SR
  | [], env, W => .nx env W
  | x :: xs, env, W => match bindG W g x env with
    | none => .no
    | some env1 => match body env1 W with
      | .nx env2 W2 => forL g body xs env2 W2
      | .ct env2 W2 => forL g body xs env2 W2
      | .brk env2 W2 => .nx env2 W2
      | r => r
def whlL (c : EvF Bool) (body : EnvD → Wd → SR) : Nat → EnvD → Wd → SR
  | 0, _, _ => .no
  | n + 1, env, W => (c env W).on fun k W1 => if k then (match body env W1 with
      | .nx env2 W2 => whlL c body n env2 W2
      | .ct env2 W2 => whlL c body n env2 W2
      | .brk env2 W2 => .nx env2 W2
      | r => r) else .nx env W1
def setP : List Nat → List D → EnvD → Option EnvD
  | [], [], env => some env
  | i :: is, d :: ds, env => if i < env.length then setP is ds (env.set i (some d)) else none
  | _, _, _ => none
def pAug (o : Operator) (W : Wd) (a b : D) : Res D := match o, a, b with
  | .Add, .int i, .int j => .ok (.int (i + j)) W
  | .Sub, .int i, .int j => .ok (.int (i - j)) W
  | _, _, _ => .no
def pSti (W : Wd) (o i y : D) : Option Wd := match o, i with
  | .hd n, .int k => match W[n]? with
    | some (.lst xs) => match ixN xs.length k with
      | some j => some (W.set n (.lst (xs.set j y)))
      | none => none
    | _ => none
  | _, _ => none
def putD (i : Nat) (y : D) (xs : List D) : Option (List D) := if i < xs.length then some (xs.set i y) else if i = xs.length then some (xs ++ [y]) else none
def pSta (T : Tb) (m : Nat) (W : Wd) (o y : D) : Option Wd := match o with
  | .hd n => match W[n]? with
    | some (.ins c xs) => match T.fld c m with
      | some i => match putD i y xs with
        | some ys => if Nat.blt ys.length 500 then some (W.set n (.ins c ys)) else none
        | none => none
      | none => none
    | _ => none
  | _ => none
def evS (T : Tb) : SE → EnvD → Wd → SR
  | .skip, env, W => .nx env W
  | .nil, env, W => .nx env W
  | .seq a b, env, W => (evS T a env W).then fun env1 W1 => evS T b env1 W1
  | .ex e, env, W => ((ev T e).e env W).on fun _ W1 => .nx env W1
  | .ret e, env, W => ((ev T e).e env W).on fun d W1 => .ret d W1
  | .retN, _, W => .ret .non W
  | .set g e, env, W => ((ev T e).e env W).on fun d W1 => match bindG W1 g d env with
    | some env1 => .nx env1 W1
    | none => .no
  | .par is es, env, W => ((ev T es).a env W).on fun ds W1 => match setP is ds env with
    | some env1 => .nx env1 W1
    | none => .no
  | .sct i fz elt tg it cond own, env, W => ((ev T (if fz then .comp elt tg it cond own else .mco elt tg it cond own)).e env W).on fun d W1 => if i < env.length then .nx (env.set i (some d)) W1 else .no
  | .ite c a b, env, W => ((ev T c).t env W).on fun k W1 => if k then evS T a env W1 else evS T b env W1
  | .forr g it b, env, W => ((ev T it).i env W).on fun xs W1 => forL g (evS T b) xs env W1
  | .forw g m o b, env, W => ((ev T o).e env W).on fun d W1 => match d with
    | .ins c fs => match T.wlk c m with
      | some i => match fs[i]? with
        | some (.lst xs) => forL g (evS T b) (enumL 0 xs) env W1
        | _ => .no
      | none => .no
    | _ => .no
  | .whl c b, env, W => whlL (ev T c).t (evS T b) 1000000 env W
  | .brk, env, W => .brk env W
  | .gho i s, env, W => match env[i]? with
    | some (some d) => (frz d W).on fun d1 W1 => evS T s (env.set i (some d1)) W1
    | _ => .no
  | .cnt, env, W => .ct env W
  | .aug o i e, env, W => match env[i]? with
    | some (some x) => ((ev T e).e env W).on fun y W1 => (pAug o W1 x y).on fun z W2 => .nx (env.set i (some z)) W2
    | _ => .no
  | .sti o i e, env, W => ((ev T e).e env W).on fun y W1 => ((ev T o).e env W1).on fun x W2 => ((ev T i).e env W2).on fun k W3 => match pSti W3 x k y with
    | some W4 => .nx env W4
    | none => .no
  | .sta m o e, env, W => ((ev T e).e env W).on fun y W1 => ((ev T o).e env W1).on fun x W2 => match pSta T m W2 x y with
    | some W4 => .nx env W4
    | none => .no
  | .unk, _, _ => .no

/-! ### the look at statements -/
def isComp : Expr → Bool
  | .ListComp .. => true
  | .SetComp .. => true
  | .DictComp .. => true
  | _ => false
def swNames (sc : Scope) (line : Nat) (ts : List Expr) : List Str := ts.filterMap fun
  | .Name id pos => if sc.names.lookup id == some .local && pos.line == line then some id else none
  | _ => none
def swLine (ts : List Expr) : Nat := (ts.head?.map (·.pos.line)).getD 0
/-- the stores of tg = e are not swapped -/
def swNo (sc : Scope) (tg e : Expr) : Bool := match tg, e with
  | .Tuple ts _ _, .Tuple vs _ _ => (!(ts.length == 2 || ts.length == 3) || vs.length != ts.length) || (!(vs.any isSt) && ((swNames sc (swLine ts) ts).length != ts.length))
  | .List .., _ => false
  | _, _ => true
def swYes (sc : Scope) (xs : List Str) (ts vs : List Expr) : Bool :=
  (ts.length == 2 || ts.length == 3) && (vs.length == ts.length && (!(vs.any isSt) && (decide (swNames sc (swLine ts) ts = xs) && (xs.length == ts.length && (decide (xs.eraseDups.length = xs.length) && (!(vs.all (foldedForSure 8)) && !(vs.all (constantsAlone 8))))))))
def namesAre (N : List Str) : List Nat → List Expr → Bool
  | [], [] => true
  | i :: is, .Name x _ :: es => decide (N[i]? = some x) && namesAre N is es
  | _, _ => false
def nmsOf : List Expr → List Str
  | .Name x _ :: es => x :: nmsOf es
  | _ => []
/-- x = [..] on one line: the list is taken over -/
def swLc (sc : Scope) (x : Str) (px pe : Pos) (s : Scope) : Bool := sc.names.lookup x == some .local && (px.line == pe.line && !(s.names.any fun (n, k) => n == x && (k == .local || k == .cell)))
def isUnk : SE → Bool
  | .unk => true
  | _ => false
mutual
def chkS (n : Nm) (N : List Str) : SE → Scope → Stmt → Bool
  | .skip, sc, st => match st with
    | .Pass _ => true
    | _ => false
  | .ex e, sc, st => match st with
    | .Expr x _ => !isComp x && (chk n N e).e sc x
    | _ => false
  | .ret e, sc, st => match st with
    | .Return (some x) _ => (chk n N e).e sc x
    | _ => false
  | .retN, sc, st => match st with
    | .Return none _ => true
    | _ => false
  | .set g e, sc, st => match st with
    | .Assign [t] x _ => (chk n N e).e sc x && (!isSt t && (chkG N sc (fun _ => true) g t && (swNo sc t x && (match x with
      | .ListComp _ _ s pe => (match t with
        | .Name y py => !swLc sc y py pe s
        | _ => true)
      | x => !isComp x))))
    | _ => false
  | .par is es, sc, st => match st with
    | .Assign [.Tuple ts _ _] (.Tuple vs _ _) _ => decide is.Nodup && (namesAre N is ts && (swYes sc (nmsOf ts) ts vs && (chk n N es).a sc vs))
    | _ => false
  | .sct i fz elt tg it cond own, sc, st => match st with
    | .Assign [.Name y py] (.ListComp el gs s pe) _ => decide (N[i]? = some y) && (swLc sc y py pe s && chkL (chk n N elt) tg (chk n N it) (chk n N cond) (isTT cond) n N own sc (.ListComp el gs s pe))
    | _ => false
  | .ite c a b, sc, st => match st with
    | .If x p q _ => (chk n N c).e sc x && (chkSs n N a sc p && chkSs n N b sc q)
    | _ => false
  | .forr g it b, sc, st => match st with
    | .For t x body [] _ => (chk n N it).i sc t x && (!isSet x && (chkG N sc (fun _ => true) g t && chkSs n N b sc body))
    | _ => false
  | .forw g m o b, sc, st => match st with
    | .For t (.Call (.Attribute x nm ap) [] [] p) body [] _ => decide (n.mnm[m]? = some nm) && (decide (("enumerate" : Str) ∈ n.free) && (baseOk x && ((ap.endLine == p.line) && ((chk n N o).e sc x && (chkG N sc (fun _ => true) g t && chkSs n N b sc body)))))
    | _ => false
  | .whl c b, sc, st => match st with
    | .While x body [] _ => (chk n N c).e sc x && chkSs n N b sc body
    | _ => false
  | .gho _ s, sc, st => chkS n N s sc st
  | .brk, sc, st => match st with
    | .Break _ => true
    | _ => false
  | .cnt, sc, st => match st with
    | .Continue _ => true
    | _ => false
  | .aug o i e, sc, st => match st with
    | .AugAssign (.Name x _) p y _ => decide (p = o) && (decide (N[i]? = some x) && (asgB sc (fun _ => true) x && (chk n N e).e sc y))
    | _ => false
  | .sti o i e, sc, st => match st with
    | .Assign [.Subscript x k _] y _ => (chk n N o).e sc x && ((chk n N i).e sc k && (!isSli k && ((chk n N e).e sc y && !isComp y)))
    | _ => false
  | .sta m o e, sc, st => match st with
    | .Assign [.Attribute x nm _] y _ => decide (n.mnm[m]? = some nm) && ((chk n N o).e sc x && ((chk n N e).e sc y && !isComp y))
    | _ => false
  | .unk, sc, st => true
  | _, _, _ => false
def chkSs (n : Nm) (N : List Str) : SE → Scope → List Stmt → Bool
  | .nil, sc, sts => match sts with
    | [] => true
    | _ => false
  | .seq a b, sc, sts => match sts with
    | s :: ss => chkS n N a sc s && chkSs n N b sc ss
    | _ => false
  | .unk, sc, sts => true
  | _, _, _ => false
end
end VI
-- VTa
set_option Elab.async false
set_option linter.all false
set_option maxRecDepth 100000
set_option maxHeartbeats 2000000
namespace VI
open PySem PySem.Spec PyProof.Rows L2
theorem stores_no {tg e : Expr} {env : Env} {sc : Scope} (hs : env.scope = sc) (h : swNo sc tg e = true) : swappedStores [tg] e env = pure none := by
  subst hs
  cases tg with
  | Tuple ts k p =>
    cases e with
    | Tuple vs k2 p2 =>
      unfold swNo at h
      simp only at h
      unfold swappedStores
      simp only
      split
      · rfl
      · rename_i hc
        rw [Bool.or_eq_true] at h
        rcases h with h | h
        · exfalso
          apply hc
          rw [Bool.or_eq_true]
          exact .inl h
        · obtain ⟨h1, h2⟩ := bool_and h
          show (if (vs.any isSt) = true then pure none else if ((swNames env.scope (swLine ts) ts).length != ts.length || (swNames env.scope (swLine ts) ts).eraseDups.length != (swNames env.scope (swLine ts) ts).length) = true then pure none else _) = _
          rw [if_neg (by rw [not_true h1]; decide), if_pos (by rw [h2]; rfl)]
    | _ => rfl
  | List ts p => cases h
  | _ => cases e <;> rfl
theorem stores_yes {ts vs : List Expr} {k k2 : Nat} {p p2 : Pos} {env : Env} {sc : Scope} {xs : List Str} (hs : env.scope = sc) (hk : sc.kind = .function) (h : swYes sc xs ts vs = true) :
    swappedStores [.Tuple ts k p] (.Tuple vs k2 p2) env = pure (some xs) := by
  subst hs
  unfold swYes at h
  obtain ⟨h1, h⟩ := bool_and h
  obtain ⟨h2, h⟩ := bool_and h
  obtain ⟨h3, h⟩ := bool_and h
  obtain ⟨h4, h⟩ := bool_and h
  obtain ⟨h5, h⟩ := bool_and h
  obtain ⟨h6, h⟩ := bool_and h
  obtain ⟨h7, h8⟩ := bool_and h
  have hb : env.blockKind = .function := by unfold Env.blockKind; rw [hk]; rfl
  have h4 := of_decide_eq_true h4
  have h6 := of_decide_eq_true h6
  unfold swappedStores
  simp only
  rw [if_neg (by rw [hb, h1, bne, h2]; decide)]
  show (if (vs.any isSt) = true then pure none else if ((swNames env.scope (swLine ts) ts).length != ts.length || (swNames env.scope (swLine ts) ts).eraseDups.length != (swNames env.scope (swLine ts) ts).length) = true then pure none else
    if vs.all (foldedForSure 8) = true then pure none else if vs.all (constantsAlone 8) = true then _ else pure (some (swNames env.scope (swLine ts) ts))) = _
  rw [h4]
  rw [if_neg (by rw [not_true h3]; decide), if_neg (by rw [bne, h5, h6]; simp), if_neg (by rw [not_true h7]; decide), if_neg (by rw [not_true h8]; decide)]
end VI
-- VT
set_option Elab.async false
set_option linter.all false
set_option maxRecDepth 100000
set_option maxHeartbeats 2000000
namespace VI
open PySem PySem.Spec PyProof.Rows L2
variable {T : Tab} {N : List Str} {E : XK}

structure SOk (T : Tab) (E : XK) (sc : Scope) (N : List Str) (k : Nat) (X : Cx) : Prop extends XOk T E sc N k X where
  own : PassesOwn (model X.prog X.w) X.A X.env X.xe
  fn : ∀ y, X.fn y = true
  kind : sc.kind = .function
  wake : XeWake X
def PostS (K : PySem.W.Frag) (G : Cls_) (E : XK) (D : Ends) (F : Addr → Prop) (r : List Addr) (H : Hp) : SR → Prop
  | .nx env W => ∀ (F' : Addr → Prop) (r' : List Addr) (H' : Hp) (σ' : L2.St), Ext F r H F' r' H' → RelW K G F' r' H' W → RelE K G F' r' H' env σ' → D.nx σ' H'
  | .ret d W => ∀ (F' : Addr → Prop) (r' : List Addr) (H' : Hp) (v : V), Ext F r H F' r' H' → RelW K G F' r' H' W → Rep K G F' r' H' d v → D.rt v H'
  | .brk env W => ∀ (F' : Addr → Prop) (r' : List Addr) (H' : Hp) (σ' : L2.St), Ext F r H F' r' H' → RelW K G F' r' H' W → RelE K G F' r' H' env σ' → D.bk σ' H'
  | .ct env W => ∀ (F' : Addr → Prop) (r' : List Addr) (H' : Hp) (σ' : L2.St), Ext F r H F' r' H' → RelW K G F' r' H' W → RelE K G F' r' H' env σ' → D.ct σ' H'
  | .exc c xs W => PostX K G E F r H c xs W
  | .no => False
section
variable {K : PySem.W.Frag} {G : Cls_} {D : Ends} {F F1 : Addr → Prop} {r r1 : List Addr} {H H1 : Hp} {env : EnvD} {σ : L2.St} {W : Wd} {α : Type}
theorem PostS.back {x : SR} (hr : ∀ a, a ∈ r1 → H1 a ≠ none) (e : Ext F r H F1 r1 H1) (h : PostS K G E D F r H x) : PostS K G E D F1 r1 H1 x := by
  cases x with
  | nx env W => exact fun F' r' H' σ' e' w l => h F' r' H' σ' (e.trans hr e') w l
  | ret d W => exact fun F' r' H' v e' w l => h F' r' H' v (e.trans hr e') w l
  | brk env W => exact fun F' r' H' σ' e' w l => h F' r' H' σ' (e.trans hr e') w l
  | ct env W => exact fun F' r' H' σ' e' w l => h F' r' H' σ' (e.trans hr e') w l
  | exc c xs W => exact PostX.back hr e h
  | no => exact h
def tS (K : PySem.W.Frag) (G : Cls_) (E : XK) (f : EnvD → Wd → SR) : TS := fun D σ H => ∃ F r env W, RelW K G F r H W ∧ RelE K G F r H env σ ∧ PostS K G E D F r H (f env W)
theorem tI.useS {k : VI.D → Wd → SR} {Dn : Ends} {R : V → Hp → Prop} {ea : EvF VI.D} (w : RelW K G F r H W) (l : RelE K G F r H env σ) (h : PostS K G E Dn F r H ((ea env W).on k))
    (hk : ∀ d W1 F1 r1 H1 v, Ext F r H F1 r1 H1 → RelW K G F1 r1 H1 W1 → RelE K G F1 r1 H1 env σ → Rep K G F1 r1 H1 d v → PostS K G E Dn F1 r1 H1 (k d W1) → R v H1) : tI K G E ea σ H R := by
  refine ⟨F, r, env, W, w, l, ?_⟩
  cases q : ea env W with
  | no => rw [q] at h; exact h
  | exc c xs W1 => rw [q] at h; exact h
  | ok d W1 =>
    rw [q] at h
    exact fun F1 r1 H1 v e1 w1 d1 => hk d W1 F1 r1 H1 v e1 w1 (l.mono e1) d1 (PostS.back w1.rh e1 h)
theorem tIT.useS {k : Bool → Wd → SR} {Dn : Ends} {R : Bool → Hp → Prop} {ea : EvF Bool} (w : RelW K G F r H W) (l : RelE K G F r H env σ) (h : PostS K G E Dn F r H ((ea env W).on k))
    (hk : ∀ d W1 F1 r1 H1, Ext F r H F1 r1 H1 → RelW K G F1 r1 H1 W1 → RelE K G F1 r1 H1 env σ → PostS K G E Dn F1 r1 H1 (k d W1) → R d H1) : tIT K G E ea σ H R := by
  refine ⟨F, r, env, W, w, l, ?_⟩
  cases q : ea env W with
  | no => rw [q] at h; exact h
  | exc c xs W1 => rw [q] at h; exact h
  | ok d W1 =>
    rw [q] at h
    exact fun F1 r1 H1 e1 w1 => hk d W1 F1 r1 H1 e1 w1 (l.mono e1) (PostS.back w1.rh e1 h)
theorem tIA.useS {k : List VI.D → Wd → SR} {Dn : Ends} {R : List V → Hp → Prop} {ea : EvF (List VI.D)} (w : RelW K G F r H W) (l : RelE K G F r H env σ) (h : PostS K G E Dn F r H ((ea env W).on k))
    (hk : ∀ d W1 F1 r1 H1 vs, Ext F r H F1 r1 H1 → RelW K G F1 r1 H1 W1 → RelE K G F1 r1 H1 env σ → RepL K G F1 r1 H1 d vs → PostS K G E Dn F1 r1 H1 (k d W1) → R vs H1) : tIA K G E ea σ H R := by
  refine ⟨F, r, env, W, w, l, ?_⟩
  cases q : ea env W with
  | no => rw [q] at h; exact h
  | exc c xs W1 => rw [q] at h; exact h
  | ok d W1 =>
    rw [q] at h
    exact fun F1 r1 H1 v e1 w1 d1 => hk d W1 F1 r1 H1 v e1 w1 (l.mono e1) d1 (PostS.back w1.rh e1 h)
theorem tII.useS {k : List VI.D → Wd → SR} {Dn : Ends} {R : It → Hp → Prop} {ea : EvF (List VI.D)} (w : RelW K G F r H W) (l : RelE K G F r H env σ) (h : PostS K G E Dn F r H ((ea env W).on k))
    (hk : ∀ d W1 F1 r1 H1 J, Ext F r H F1 r1 H1 → RelW K G F1 r1 H1 W1 → RelE K G F1 r1 H1 env σ → IterOk K G J d F1 r1 H1 → PostS K G E Dn F1 r1 H1 (k d W1) → R J H1) : tII K G E ea σ H R := by
  refine ⟨F, r, env, W, w, l, ?_⟩
  cases q : ea env W with
  | no => rw [q] at h; exact h
  | exc c xs W1 => rw [q] at h; exact h
  | ok d W1 =>
    rw [q] at h
    exact fun F1 r1 H1 v e1 w1 d1 => hk d W1 F1 r1 H1 v e1 w1 (l.mono e1) d1 (PostS.back w1.rh e1 h)
end
theorem PS.imp {X : Cx} {st : Stmt} {t t' : TS} (h : PS X st t) (i : ∀ D σ H, t' D σ H → t D σ H) : PS X st t' := ⟨fun pins s σ H D I q => h.run pins s σ H D I (i _ _ _ q)⟩
theorem PSs.imp {X : Cx} {st : List Stmt} {t t' : TS} (h : PSs X st t) (i : ∀ D σ H, t' D σ H → t D σ H) : PSs X st t' := ⟨fun pins s σ H D I q => h.run pins s σ H D I (i _ _ _ q)⟩

/-! ### swaps -/
theorem swaps_no {e : Expr} {t : Option Expr} {l : Nat} {env : Env} (h : isComp e = false) : swapsWith e t l env = pure false := by
  cases e <;> first | rfl | cases h
theorem swaps_sole {e t : Expr} {l : Nat} {env : Env} (h : isComp e = false) : swapsWithSole [t] e l env = pure false := swaps_no h
theorem swaps_lc {el : Expr} {gs : List Comprehension} {s : Scope} {pe py pos : Pos} {y : Str} {env : Env} {sc : Scope} (hs : env.scope = sc) (hk : sc.kind = .function) :
    swapsWith (.ListComp el gs s pe) (some (.Name y py)) pos.line env = pure (swLc sc y py pe s) := by
  subst hs
  have hb : (env.blockKind == .function) = true := by unfold Env.blockKind; rw [hk]; rfl
  unfold swapsWith swLc Env.kindOf
  simp only [hb, Bool.true_and, Bool.and_assoc]
  rfl
theorem asgEach_one {t : Expr} {env : Env} (h : isSt t = false) : (assignEach [t] env).map (·.2) = [assign t env] := by
  cases t <;> first | rfl | cases h

structure Ss (T : Tab) (N : List Str) (s : SE) : Prop where
  st : ∀ {E sc k X st}, SOk T E sc N k X → chkS T.n N s sc st = true → PS X st (tS X.K T.G E (evS T.tb s))
  sts : ∀ {E sc k X st}, SOk T E sc N k X → chkSs T.n N s sc st = true → PSs X st (tS X.K T.G E (evS T.tb s))
theorem ss_skip : Ss T N .skip where
  st := fun {E sc k X st} x h => by
    unfold chkS at h
    split at h
    · refine PS.imp ps_pass fun D σ H q => ?_
      obtain ⟨F, r, env, W, w, l, q⟩ := q
      exact q F r H σ .refl w l
    · cases h
  sts := fun x h => by simp [chkSs] at h
theorem ss_nil : Ss T N .nil where
  st := fun x h => by simp [chkS] at h
  sts := fun {E sc k X st} x h => by
    unfold chkSs at h
    split at h
    · refine PSs.imp pss_nil fun D σ H q => ?_
      obtain ⟨F, r, env, W, w, l, q⟩ := q
      exact q F r H σ .refl w l
    · cases h
theorem ss_seq {a b : SE} (ha : Ss T N a) (hb : Ss T N b) : Ss T N (.seq a b) where
  st := fun x h => by simp [chkS] at h
  sts := fun {E sc k X st} x h => by
    unfold chkSs at h
    split at h
    · obtain ⟨h1, h2⟩ := bool_and h
      refine PSs.imp (pss_cons (ha.st x h1) (hb.sts x h2)) fun D σ H q => ?_
      obtain ⟨F, r, env, W, w, l, q⟩ := q
      refine ⟨F, r, env, W, w, l, ?_⟩
      have q : PostS X.K T.G E D F r H ((evS T.tb a env W).then fun env1 W1 => evS T.tb b env1 W1) := q
      cases z : evS T.tb a env W with
      | nx env1 W1 =>
        rw [z] at q
        exact fun F' r' H' σ' e w' l' => ⟨F', r', env1, W1, w', l', PostS.back w'.rh e q⟩
      | ret d W1 => rw [z] at q; exact q
      | brk env1 W1 => rw [z] at q; exact q
      | ct env1 W1 => rw [z] at q; exact q
      | exc c xs W1 => rw [z] at q; exact q
      | no => rw [z] at q; exact q
    · cases h
theorem ss_ex (e : IE) : Ss T N (.ex e) where
  st := fun {E sc k X st} x h => by
    unfold chkS at h
    split at h
    · obtain ⟨h1, h2⟩ := bool_and h
      refine PS.imp (ps_expr ((sd e).e x.toXOk h2) (swaps_no (not_true h1))) fun D σ H q => ?_
      obtain ⟨F, r, env, W, w, l, q⟩ := q
      exact tI.useS w l q fun d W1 F1 r1 H1 v e1 w1 l1 p1 q1 => q1 F1 r1 H1 σ .refl w1 l1
    · cases h
  sts := fun x h => by simp [chkSs] at h
theorem ss_ret (e : IE) : Ss T N (.ret e) where
  st := fun {E sc k X st} x h => by
    unfold chkS at h
    split at h
    · refine PS.imp (ps_ret ((sd e).e x.toXOk h)) fun D σ H q => ?_
      obtain ⟨F, r, env, W, w, l, q⟩ := q
      exact tI.useS w l q fun d W1 F1 r1 H1 v e1 w1 l1 p1 q1 => q1 F1 r1 H1 v .refl w1 p1
    · cases h
  sts := fun x h => by simp [chkSs] at h
theorem ss_retN : Ss T N .retN where
  st := fun {E sc k X st} x h => by
    unfold chkS at h
    split at h
    · refine PS.imp ps_retN fun D σ H q => ?_
      obtain ⟨F, r, env, W, w, l, q⟩ := q
      exact q F r H .non .refl w rep_non
    · cases h
  sts := fun x h => by simp [chkSs] at h
theorem ss_brk : Ss T N .brk where
  st := fun {E sc k X st} x h => by
    unfold chkS at h
    split at h
    · refine PS.imp ps_break fun D σ H q => ?_
      obtain ⟨F, r, env, W, w, l, q⟩ := q
      exact q F r H σ .refl w l
    · cases h
  sts := fun x h => by simp [chkSs] at h
theorem ss_cnt : Ss T N .cnt where
  st := fun {E sc k X st} x h => by
    unfold chkS at h
    split at h
    · refine PS.imp ps_continue fun D σ H q => ?_
      obtain ⟨F, r, env, W, w, l, q⟩ := q
      exact q F r H σ .refl w l
    · cases h
  sts := fun x h => by simp [chkSs] at h
theorem ss_unk : Ss T N .unk where
  st := fun x h => ⟨fun _ _ _ _ _ _ q => by obtain ⟨_, _, _, _, _, _, q⟩ := q; exact q.elim⟩
  sts := fun x h => ⟨fun _ _ _ _ _ _ q => by obtain ⟨_, _, _, _, _, _, q⟩ := q; exact q.elim⟩
theorem ss_ite (c : IE) {a b : SE} (ha : Ss T N a) (hb : Ss T N b) : Ss T N (.ite c a b) where
  st := fun {E sc k X st} x h => by
    unfold chkS at h
    split at h
    · obtain ⟨h1, h2⟩ := bool_and h
      obtain ⟨h2, h3⟩ := bool_and h2
      refine PS.imp (ps_if ((sd c).t x.toXOk h1) (ha.sts x h2) (hb.sts x h3)) fun D σ H q => ?_
      obtain ⟨F, r, env, W, w, l, q⟩ := q
      refine tIT.useS w l q fun d W1 F1 r1 H1 e1 w1 l1 q1 => ?_
      cases d with
      | true => exact ⟨F1, r1, env, W1, w1, l1, q1⟩
      | false => exact ⟨F1, r1, env, W1, w1, l1, q1⟩
    · cases h
  sts := fun x h => by simp [chkSs] at h
theorem ss_set (g : IG) (e : IE) : Ss T N (.set g e) where
  st := fun {E sc k X st} x h => by
    unfold chkS at h
    split at h
    · rename_i t y pos
      obtain ⟨h1, h⟩ := bool_and h
      obtain ⟨h2, h⟩ := bool_and h
      obtain ⟨h3, h⟩ := bool_and h
      obtain ⟨h4, h5⟩ := bool_and h
      have hsw : swapsWithSole [t] y pos.line X.env = pure false := by
        split at h5
        · split at h5
          · exact (swaps_lc (pos := pos) x.hs x.kind).trans (by rw [not_true h5])
          · cases t <;> first | rfl | (rename_i hh; exact absurd rfl (hh _ _))
        · exact swaps_sole (not_true h5)
      refine PS.imp (ps_asg ((sd e).e x.toXOk h1) ((pg_of x.toXOk (fun z _ => x.fn z) g).1 t h3) hsw (stores_no x.hs h4) (asgEach_one (not_true h2))) fun D σ H q => ?_
      obtain ⟨F, r, env, W, w, l, q⟩ := q
      refine tI.useS w l q fun d W1 F1 r1 H1 v e1 w1 l1 p1 q1 => ?_
      cases z : bindG W1 g d env with
      | none => rw [z] at q1; exact q1.elim
      | some env1 =>
        rw [z] at q1
        exact ⟨F1, r1, W1, d, env, env1, w1, l1, p1, z, fun σ' l' _ => q1 F1 r1 H1 σ' .refl w1 l'⟩
    · cases h
  sts := fun x h => by simp [chkSs] at h
theorem nms_one {N : List Str} {i : Nat} {is : List Nat} {e : Expr} {es : List Expr} (h : namesAre N (i :: is) (e :: es) = true) : ∃ x p, e = .Name x p ∧ N[i]? = some x ∧ namesAre N is es = true := by
  cases e <;> simp [namesAre] at h
  rename_i x p
  exact ⟨x, p, rfl, h.1, h.2⟩
theorem nms_nil {N : List Str} {is : List Nat} (h : namesAre N is [] = true) : is = [] := by cases is <;> simp_all [namesAre]
theorem nms_cons {N : List Str} {is : List Nat} {e : Expr} {es : List Expr} (h : namesAre N is (e :: es) = true) : ∃ i js, is = i :: js := by
  cases is with
  | nil => simp [namesAre] at h
  | cons i js => exact ⟨i, js, rfl⟩
theorem sw_loc {sc : Scope} {l : Nat} {ts : List Expr} {x : Str} (h : x ∈ swNames sc l ts) : sc.names.lookup x = some .local := by
  unfold swNames at h
  rw [List.mem_filterMap] at h
  obtain ⟨e, he, h⟩ := h
  cases e <;> simp at h
  obtain ⟨⟨h1, _⟩, rfl⟩ := h
  exact h1
theorem ss_par (is : List Nat) (es : IE) : Ss T N (.par is es) where
  st := fun {E sc k X st} x h => by
    unfold chkS at h
    split at h
    · rename_i ts k1 p1 vs k2 p2 pos
      obtain ⟨h1, h⟩ := bool_and h
      obtain ⟨h2, h⟩ := bool_and h
      obtain ⟨h3, h4⟩ := bool_and h
      have nd := of_decide_eq_true h1
      have hw := stores_yes (k := k1) (k2 := k2) (p := p1) (p2 := p2) x.hs x.kind h3
      unfold swYes at h3
      obtain ⟨g1, h3⟩ := bool_and h3
      obtain ⟨g2, h3⟩ := bool_and h3
      obtain ⟨g3, h3⟩ := bool_and h3
      obtain ⟨g4, h3⟩ := bool_and h3
      have g4 := of_decide_eq_true g4
      have hloc : ∀ z ∈ nmsOf ts, sc.names.lookup z = some .local := fun z hz => sw_loc (g4 ▸ hz)
      have go2 : ∀ (D : Ends) (σ : L2.St) (H : Hp), tS X.K T.G E (evS T.tb (.par is es)) D σ H → ∃ F r env W, RelW X.K T.G F r H W ∧ RelE X.K T.G F r H env σ ∧ PostS X.K T.G E D F r H (((ev T.tb es).a env W).on fun ds W1 => match setP is ds env with
        | some env1 => .nx env1 W1
        | none => .no) := fun _ _ _ q => q
      have pa := (sd es).a x.toXOk h4
      match ts, vs, h2, hw, g1, g2, hloc, pa with
      | [t1, t2], [v1, v2], h2, hw, g1, g2, hloc, pa =>
        obtain ⟨i, is, rfl⟩ := nms_cons h2
        obtain ⟨y1, q1, rfl, hi, h2⟩ := nms_one h2
        obtain ⟨j, is, rfl⟩ := nms_cons h2
        obtain ⟨y2, q2, rfl, hj, h2⟩ := nms_one h2
        cases nms_nil h2
        have hij : i ≠ j := by
          intro e
          subst e
          simp at nd
        refine PS.imp (ps_par x.calm (by rw [x.hN]; exact x.nd) (by rw [x.hN]; exact hi) (by rw [x.hN]; exact hj) hij (by rw [x.hs]; exact hloc _ (by simp [nmsOf])) (by rw [x.hs]; exact hloc _ (by simp [nmsOf])) pa hw) fun D σ H q => ?_
        obtain ⟨F, r, env, W, w, l, q⟩ := go2 D σ H q
        refine tIA.useS w l q fun d W1 F1 r1 H1 v e1 w1 l1 p1 q1 => ?_
        match d, p1, q1 with
        | [d1, d2], p1, q1 =>
          obtain ⟨u1, ws, rfl, r1', p1⟩ := p1.inv
          obtain ⟨u2, ws, rfl, r2', p1⟩ := p1.inv
          cases p1.inv0
          refine ⟨u1, u2, rfl, ?_⟩
          simp only [setP] at q1
          split at q1
          · rename_i env1 z
            split at z
            · rename_i l1'
              split at z
              · rename_i l2'
                cases z
                exact q1 F1 _ H1 _ .refl w1 ((l1.set l1' r1').set l2' r2')
              · cases z
            · cases z
          · exact q1.elim
        | [], p1, q1 => exact q1.elim
        | [_], p1, q1 => simp only [setP] at q1; split at q1 <;> first | exact q1.elim | (rename_i z; split at z <;> cases z)
        | _ :: _ :: _ :: _, p1, q1 =>
          simp only [setP] at q1
          split at q1
          · rename_i z
            split at z
            · split at z <;> cases z
            · cases z
          · exact q1.elim
      | [t1, t2, t3], [v1, v2, v3], h2, hw, g1, g2, hloc, pa =>
        obtain ⟨i, is, rfl⟩ := nms_cons h2
        obtain ⟨y1, q1, rfl, hi, h2⟩ := nms_one h2
        obtain ⟨j, is, rfl⟩ := nms_cons h2
        obtain ⟨y2, q2, rfl, hj, h2⟩ := nms_one h2
        obtain ⟨m, is, rfl⟩ := nms_cons h2
        obtain ⟨y3, q3, rfl, hm, h2⟩ := nms_one h2
        cases nms_nil h2
        have hij : i ≠ j := by intro e; subst e; simp at nd
        have him : i ≠ m := by intro e; subst e; simp at nd
        have hjm : j ≠ m := by intro e; subst e; simp at nd
        refine PS.imp (ps_par3 x.calm (by rw [x.hN]; exact x.nd) (by rw [x.hN]; exact hi) (by rw [x.hN]; exact hj) (by rw [x.hN]; exact hm) hij him hjm (by rw [x.hs]; exact hloc _ (by simp [nmsOf])) (by rw [x.hs]; exact hloc _ (by simp [nmsOf])) (by rw [x.hs]; exact hloc _ (by simp [nmsOf])) pa hw) fun D σ H q => ?_
        obtain ⟨F, r, env, W, w, l, q⟩ := go2 D σ H q
        refine tIA.useS w l q fun d W1 F1 r1 H1 v e1 w1 l1 p1 q1 => ?_
        cases z : setP [i, j, m] d env with
        | none => rw [z] at q1; exact q1.elim
        | some env1 =>
          rw [z] at q1
          match d, p1, z with
          | [], _, z => simp [setP] at z
          | [_], _, z => simp only [setP] at z; split at z <;> cases z
          | [_, _], _, z =>
            simp only [setP] at z
            split at z
            · split at z <;> cases z
            · cases z
          | [d1, d2, d3], p1, z =>
            obtain ⟨u1, ws, rfl, r1', p1⟩ := p1.inv
            obtain ⟨u2, ws, rfl, r2', p1⟩ := p1.inv
            obtain ⟨u3, ws, rfl, r3', p1⟩ := p1.inv
            cases p1.inv0
            refine ⟨u1, u2, u3, rfl, ?_⟩
            simp only [setP] at z
            split at z
            · rename_i l1'
              split at z
              · rename_i l2'
                split at z
                · rename_i l3'
                  cases z
                  exact q1 F1 _ H1 _ .refl w1 (((l1.set l1' r1').set l2' r2').set l3' r3')
                · cases z
              · cases z
            · cases z
          | _ :: _ :: _ :: _ :: _, _, z =>
            simp only [setP] at z
            split at z
            · split at z
              · split at z <;> cases z
              · cases z
            · cases z
      | [], _, _, _, g1, _, _, _ => simp at g1
      | [_], _, _, _, g1, _, _, _ => simp at g1
      | _ :: _ :: _ :: _ :: _, _, _, _, g1, _, _, _ => simp at g1
      | [_, _], [], _, _, _, g2, _, _ => simp at g2
      | [_, _], [_], _, _, _, g2, _, _ => simp at g2
      | [_, _], _ :: _ :: _ :: _, _, _, _, g2, _, _ => simp at g2
      | [_, _, _], [], _, _, _, g2, _, _ => simp at g2
      | [_, _, _], [_], _, _, _, g2, _, _ => simp at g2
      | [_, _, _], [_, _], _, _, _, g2, _, _ => simp at g2
      | [_, _, _], _ :: _ :: _ :: _ :: _, _, _, _, g2, _, _ => simp at g2
    · cases h
  sts := fun x h => by simp [chkSs] at h
theorem for_core {E : XK} {X : Cx} {g : IG} {b : SE} {J : It} {xs : List VI.D} {D : Ends} {F1 : Addr → Prop} {r1 : List Addr} {H1 : Hp} {W1 : Wd} {env : EnvD} {σ : L2.St} (io : IterOk X.K T.G J xs F1 r1 H1) (w1 : RelW X.K T.G F1 r1 H1 W1) (l1 : RelE X.K T.G F1 r1 H1 env σ)
    (q1 : PostS X.K T.G E D F1 r1 H1 (forL g (evS T.tb b) xs env W1)) : ∃ Wf : Nat → Nat → L2.St → Hp → Prop, (∃ m, Wf 0 m σ H1) ∧ ∀ i m σ H, Wf i m σ H →
      (J.stop i H ∧ D.nx σ H) ∨ (J.go i H ∧ ∃ N_ : L2.St → Hp → Prop, (∀ σ' H', N_ σ' H' → ∃ m', m' < m ∧ Wf (i + 1) m' σ' H') ∧ ∀ x H', J.yld i H x H' → (gI X.K T.G g) x σ H' fun σ2 H2 => (tS X.K T.G E (evS T.tb b)) { D with nx := N_, ct := N_, bk := D.nx } σ2 H2) := by
  obtain ⟨G_, Y, wk, hG, hY⟩ := io.ex
  refine for_it wk (fun i σ' H' => ∃ F2 r2 W2 env2, Ext F1 r1 H1 F2 r2 H' ∧ RelW X.K T.G F2 r2 H' W2 ∧ RelE X.K T.G F2 r2 H' env2 σ' ∧ PostS X.K T.G E D F2 r2 H' (forL g (evS T.tb b) (xs.drop i) env2 W2))
    ⟨F1, r1, W1, env, .refl, w1, l1, q1⟩ ?_ ?_ ?_
  · rintro i σ' H' _ ⟨F2, r2, W2, env2, e, _⟩
    exact hG _ _ _ e
  · rintro i v σ' H2 H3 hi ⟨F2, r2, W2, env2, e, w2, l2, q2⟩ hy
    have hx : xs[i]? = some xs[i] := List.getElem?_eq_getElem hi
    obtain ⟨F3, e3, w3, p3⟩ := hY _ _ _ W2 i xs[i] v H3 e w2 hx hy
    rw [List.drop_eq_getElem_cons hi] at q2
    have q3 := PostS.back w3.rh e3 q2
    unfold forL at q3
    split at q3
    · exact q3.elim
    · rename_i env3 hb3
      refine ⟨F3, r2, W2, xs[i], env2, env3, w3, l2.mono e3, p3, hb3, fun σ3 l3 _ => ?_⟩
      refine ⟨F3, r2, env3, W2, w3, l3, ?_⟩
      have eF := e.trans w2.rh e3
      cases z : evS T.tb b env3 W2 with
      | nx env4 W4 => rw [z] at q3; exact fun F' r' H' σ' e' w' l' => ⟨F', r', W4, env4, eF.trans w3.rh e', w', l', PostS.back w'.rh e' q3⟩
      | ct env4 W4 => rw [z] at q3; exact fun F' r' H' σ' e' w' l' => ⟨F', r', W4, env4, eF.trans w3.rh e', w', l', PostS.back w'.rh e' q3⟩
      | brk env4 W4 => rw [z] at q3; exact q3
      | ret d W4 => rw [z] at q3; exact q3
      | exc c ys W4 => rw [z] at q3; exact q3
      | no => rw [z] at q3; exact q3
  · rintro σ' H' ⟨F2, r2, W2, env2, e, w2, l2, q2⟩
    rw [List.drop_length] at q2
    exact q2 F2 r2 H' σ' .refl w2 l2
theorem ss_forr (g : IG) (it : IE) {b : SE} (hb : Ss T N b) : Ss T N (.forr g it b) where
  st := fun {E sc k X st} x h => by
    unfold chkS at h
    split at h
    · rename_i t iter body pos
      obtain ⟨h1, h⟩ := bool_and h
      obtain ⟨h2, h⟩ := bool_and h
      obtain ⟨h3, h4⟩ := bool_and h
      refine PS.imp (ps_for (wi := tII X.K T.G E (ev T.tb it).i) (g := gI X.K T.G g) (tb := tS X.K T.G E (evS T.tb b)) x.own x.calm ((sd it).i x.toXOk h1) ((pg_of x.toXOk (fun z _ => x.fn z) g).1 t h3) (hb.sts x h4) ?_) fun D σ H q => ?_
      · intro y
        cases iter <;> first | rfl | exact absurd h2 (by simp [isSet])
      · obtain ⟨F, r, env, W, w, l, q⟩ := q
        unfold tFor
        refine tII.useS w l q fun xs W1 F1 r1 H1 J e1 w1 l1 io q1 => ?_
        exact for_core io w1 l1 q1
    · cases h
  sts := fun x h => by simp [chkSs] at h
theorem ss_whl (c : IE) {b : SE} (hb : Ss T N b) : Ss T N (.whl c b) where
  st := fun {E sc k X st} x h => by
    unfold chkS at h
    split at h
    · obtain ⟨h1, h2⟩ := bool_and h
      refine PS.imp (ps_while x.own ((sd c).t x.toXOk h1) (hb.sts x h2)) fun D σ H q => ?_
      obtain ⟨F, r, env, W, w, l, q⟩ := q
      have q : PostS X.K T.G E D F r H (whlL (ev T.tb c).t (evS T.tb b) 1000000 env W) := q
      refine ⟨fun m σ H => ∃ F r env W, RelW X.K T.G F r H W ∧ RelE X.K T.G F r H env σ ∧ PostS X.K T.G E D F r H (whlL (ev T.tb c).t (evS T.tb b) m env W), ⟨1000000, F, r, env, W, w, l, q⟩, ?_⟩
      rintro m σ H ⟨F, r, env, W, w, l, q⟩
      cases m with
      | zero => exact q.elim
      | succ m =>
        unfold whlL at q
        refine tIT.useS w l q fun d W1 F1 r1 H1 e1 w1 l1 q1 => ?_
        cases d with
        | false => exact q1 F1 r1 H1 σ .refl w1 l1
        | true =>
          rw [if_pos rfl] at q1 ⊢
          refine ⟨fun σ' H' => ∃ F r env W, RelW X.K T.G F r H' W ∧ RelE X.K T.G F r H' env σ' ∧ PostS X.K T.G E D F r H' (whlL (ev T.tb c).t (evS T.tb b) m env W), fun σ' H' hh => ⟨m, Nat.lt_succ_self _, hh⟩, ?_⟩
          refine ⟨F1, r1, env, W1, w1, l1, ?_⟩
          cases z : evS T.tb b env W1 with
          | nx env4 W4 => rw [z] at q1; exact fun F' r' H' σ' e' w' l' => ⟨F', r', env4, W4, w', l', PostS.back w'.rh e' q1⟩
          | ct env4 W4 => rw [z] at q1; exact fun F' r' H' σ' e' w' l' => ⟨F', r', env4, W4, w', l', PostS.back w'.rh e' q1⟩
          | brk env4 W4 => rw [z] at q1; exact q1
          | ret d W4 => rw [z] at q1; exact q1
          | exc c ys W4 => rw [z] at q1; exact q1
          | no => rw [z] at q1; exact q1
    · cases h
  sts := fun x h => by simp [chkSs] at h
end VI
-- VU
set_option Elab.async false
set_option linter.all false
set_option maxRecDepth 100000
set_option maxHeartbeats 2000000
namespace VI
open PySem PySem.Spec PyProof.Rows L2
variable {T : Tab} {N : List Str} {E : XK}

theorem ipEx {X : Cx} {op : Operator} : PIp X op (fun v u H Q => ∃ rd, PIp X op rd ∧ rd v u H Q) := fun pins s σ H x y v u Q I rx ry ⟨rd, h, q⟩ => h pins s σ H x y v u Q I rx ry q
theorem pAug_ok {X : Cx} {o : Operator} {F : Addr → Prop} {r : List Addr} {H : Hp} {W : Wd} {a b : D} {v u : V} {Q : VK} (w : RelW X.K T.G F r H W) (ha : Rep X.K T.G F r H a v) (hb : Rep X.K T.G F r H b u) (q : Post X.K T.G E Q F r H (pAug o W a b)) : ∃ rd, PIp X o rd ∧ rd v u H Q := by
  unfold pAug at q
  split at q
  · exact ⟨_, ip_add, _, _, ha.int, hb.int, post_pure w rep_int q⟩
  · exact ⟨_, ip_sub, _, _, ha.int, hb.int, post_pure w rep_int q⟩
  · exact q.elim
theorem ss_aug (o : Operator) (i : Nat) (e : IE) : Ss T N (.aug o i e) where
  st := fun {E sc k X st} x h => by
    unfold chkS at h
    split at h
    · obtain ⟨h1, h⟩ := bool_and h
      obtain ⟨h2, h⟩ := bool_and h
      obtain ⟨h3, h4⟩ := bool_and h
      cases of_decide_eq_true h1
      obtain ⟨l1, l2⟩ := asgB_ok h3
      refine PS.imp (ps_aug (i := i) (by rw [x.hN]; exact x.nd) (by rw [x.hN]; exact of_decide_eq_true h2) (by rw [x.hs]; exact l1) ((sd e).e x.toXOk h4) ipEx (.inl (x.fn _))) fun D σ H q => ?_
      obtain ⟨F, r, env, W, w, l, q⟩ := q
      have q : PostS X.K T.G E D F r H (match env[i]? with
        | some (some x) => ((ev T.tb e).e env W).on fun y W1 => (pAug o W1 x y).on fun z W2 => .nx (env.set i (some z)) W2
        | _ => .no) := q
      split at q
      · rename_i d hd
        obtain ⟨v, hv, pv⟩ := l.at_ i d hd
        have hi : i < env.length := (List.getElem?_eq_some_iff.mp hd).1
        refine ⟨v, hv, tI.useS w l q fun d2 W1 F1 r1 H1 u e1 w1 l1 p1 q1 => ?_⟩
        refine pAug_ok (E := E) w1 (pv.mono e1) p1 ?_
        cases z : pAug o W1 d d2 with
        | no => rw [z] at q1; exact q1
        | exc c xs W2 => rw [z] at q1; exact q1
        | ok d3 W2 =>
          rw [z] at q1
          exact fun F' r' H' v' e' w' p' => q1 F' r' H' _ e' w' ((l1.mono e').set hi p')
      · exact q.elim
    · cases h
  sts := fun x h => by simp [chkSs] at h
theorem pSti_ok {X : Cx} {F : Addr → Prop} {r : List Addr} {H : Hp} {W W2 : Wd} {o i y : D} {vo vi vy : V} {Q : Hp → Prop} (w : RelW X.K T.G F r H W) (ho : Rep X.K T.G F r H o vo) (hi : Rep X.K T.G F r H i vi) (hy : Rep X.K T.G F r H y vy) (e : pSti W o i y = some W2)
    (hq : ∀ H2, Ext F r H F r H2 → RelW X.K T.G F r H2 W2 → Q H2) : rSetL vo vi vy H Q := by
  unfold pSti at e
  split at e
  · rename_i n k
    split at e
    · rename_i xs hw
      split at e
      · rename_i j hj
        cases e
        obtain ⟨a, vs, hr, rfl, hH, nf, t⟩ := setH w ho hw
        have e3 := ext_set (o := .lst (vs.set j vy)) w hw (fun e => nomatch e) hr
        exact ⟨a, vs, k, j, rfl, hi.int, hH, by rw [← t.length]; exact hj, hq _ e3 (relW_set w hw (fun e => nomatch e) hr ⟨_, upd_same, RepL.mono e3 (t.set hy j)⟩)⟩
      · cases e
    · cases e
  · cases e
theorem ss_sti (o i e : IE) : Ss T N (.sti o i e) where
  st := fun {E sc k X st} x h => by
    unfold chkS at h
    split at h
    · rename_i xo xi p1 y pos
      obtain ⟨h1, h⟩ := bool_and h
      obtain ⟨h2, h⟩ := bool_and h
      obtain ⟨h3, h⟩ := bool_and h
      obtain ⟨h4, h5⟩ := bool_and h
      refine PS.imp (ps_asg ((sd e).e x.toXOk h4) (pg_sub ((sd o).e x.toXOk h1) ((sd i).e x.toXOk h2) set_list ?_) (swaps_sole (not_true h5)) ?_ rfl) fun D σ H q => ?_
      · intro v
        cases xi <;> first | rfl | exact absurd h3 (by simp [isSli])
      · cases y <;> rfl
      · obtain ⟨F, r, env, W, w, l, q⟩ := q
        refine tI.useS w l q fun dy W1 F1 r1 H1 vy e1 w1 l1 p1 q1 => ?_
        refine tI.useS w1 l1 q1 fun dx W2 F2 r2 H2 vx e2 w2 l2 p2 q2 => ?_
        refine tI.useS w2 l2 q2 fun di W3 F3 r3 H3 vi e3 w3 l3 p3 q3 => ?_
        cases z : pSti W3 dx di dy with
        | none => rw [z] at q3; exact q3.elim
        | some W4 =>
          rw [z] at q3
          exact pSti_ok w3 (p2.mono e3) p3 ((p1.mono e2).mono e3) z fun H4 e4 w4 => q3 F3 r3 H4 σ e4 w4 (l3.mono e4)
    · cases h
  sts := fun x h => by simp [chkSs] at h
theorem putF_zip : ∀ {ks : List Str} {vs : List V} {i : Nat} {x : Str} {v : V}, ks.Nodup → ks[i]? = some x → i < vs.length → putF x v (ks.zip vs) = ks.zip (vs.set i v)
  | [], _, _, _, _, _, h, _ => by simp at h
  | _ :: _, [], _, _, _, _, _, h => by simp at h
  | k :: ks, u :: vs, 0, x, v, nd, h, _ => by
    simp at h
    subst h
    simp [putF]
  | k :: ks, u :: vs, i + 1, x, v, nd, h, hl => by
    simp at h hl
    rw [List.nodup_cons] at nd
    have hm : x ∈ ks := List.mem_of_getElem? h
    have ne : k ≠ x := fun e => nd.1 (by rw [e]; exact hm)
    simp only [List.zip_cons_cons, List.set_cons_succ, putF, if_neg ne]
    rw [putF_zip nd.2 h hl]
theorem putF_zip2 : ∀ {ks : List Str} {vs : List V} {x : Str} {v : V}, ks.Nodup → ks[vs.length]? = some x → putF x v (ks.zip vs) = ks.zip (vs ++ [v])
  | [], _, _, _, _, h => by simp at h
  | k :: ks, [], x, v, nd, h => by simp at h; subst h; simp [putF]
  | k :: ks, u :: vs, x, v, nd, h => by
    simp at h
    rw [List.nodup_cons] at nd
    have hm : x ∈ ks := List.mem_of_getElem? h
    have ne : k ≠ x := fun e => nd.1 (by rw [e]; exact hm)
    simp only [List.zip_cons_cons, List.cons_append, putF, if_neg ne]
    rw [putF_zip2 nd.2 h]
theorem putD_ok {K : PySem.W.Frag} {G : Cls_} {F : Addr → Prop} {r : List Addr} {H : Hp} {i : Nat} {y : D} {vy : V} {xs ys : List D} {vs : List V} {ks : List Str} {x : Str} (h : putD i y xs = some ys) (t : RepL K G F r H xs vs) (hy : Rep K G F r H y vy) (nd : ks.Nodup) (hk : ks[i]? = some x) :
    ∃ ws, putF x vy (ks.zip vs) = ks.zip ws ∧ RepL K G F r H ys ws := by
  unfold putD at h
  split at h
  · rename_i hl
    cases h
    exact ⟨vs.set i vy, putF_zip nd hk (by rw [← t.length]; exact hl), t.set hy i⟩
  · split at h
    · rename_i hl
      cases h
      subst hl
      exact ⟨vs ++ [vy], putF_zip2 nd (by rw [← t.length]; exact hk), t.append (.cons' hy .nil')⟩
    · cases h
theorem setI {X : Cx} {F : Addr → Prop} {r : List Addr} {H : Hp} {W : Wd} {n c : Nat} {v : V} {xs : List D} (w : RelW X.K T.G F r H W) (p : Rep X.K T.G F r H (.hd n) v) (hw : W[n]? = some (.ins c xs)) :
    ∃ a dx vs, r[n]? = some a ∧ v = .ref a ∧ H a = some (.ins (T.G.clsA c) dx ((T.G.flds c).zip vs)) ∧ ¬ F a ∧ RepL X.K T.G F r H xs vs := by
  obtain ⟨a, ha, rfl⟩ := p.hd
  rcases w.ok n _ a hw ha with z | ⟨nf, dx, vs, hs, t⟩
  · cases z
  · exact ⟨a, dx, vs, ha, rfl, hs, nf, t⟩
theorem ss_sta (m : Nat) (o e : IE) : Ss T N (.sta m o e) where
  st := fun {E sc k X st} x h => by
    unfold chkS at h
    split at h
    · rename_i xo nm p1 y pos
      obtain ⟨h1, h⟩ := bool_and h
      obtain ⟨h2, h⟩ := bool_and h
      obtain ⟨h3, h4⟩ := bool_and h
      refine PS.imp (ps_fld ((sd o).e x.toXOk h2) ((sd e).e x.toXOk h3) (swaps_no (not_true h4))) fun D σ H q => ?_
      obtain ⟨F, r, env, W, w, l, q⟩ := q
      unfold sFld
      refine tI.useS w l q fun dy W1 F1 r1 H1 vy e1 w1 l1 p1 q1 => ?_
      refine tI.useS w1 l1 q1 fun dx W2 F2 r2 H2 vx e2 w2 l2 p2 q2 => ?_
      cases z : pSta T.tb m W2 dx dy with
      | none => rw [z] at q2; exact q2.elim
      | some W4 =>
        rw [z] at q2
        unfold pSta at z
        split at z
        · rename_i n
          split at z
          · rename_i c xs hw
            split at z
            · rename_i i hi
              split at z
              · rename_i ys hp
                split at z
                · rename_i hlen
                  cases z
                  obtain ⟨a, dxx, vs, hr, rfl, hH, nf, t⟩ := setI w2 p2 hw
                  obtain ⟨nm', m1, m2, m3, m4, m5⟩ := x.fx.cls c m i hi
                  rw [of_decide_eq_true h1] at m1
                  cases m1
                  obtain ⟨ws, hws, tw⟩ := putD_ok hp t (p1.mono e2) m5 m4
                  have e3 := ext_set (o := .ins (T.G.clsA c) dxx ((T.G.flds c).zip ws)) w2 hw (fun e => nomatch e) hr
                  have hl : xs.length ≤ ys.length := by
                    unfold putD at hp
                    split at hp
                    · cases hp; simp
                    · split at hp
                      · cases hp; simp
                      · cases hp
                  have hlen := Nat.le_of_ble_eq_true hlen
                  refine ⟨a, _, dxx, _, rfl, hH, m2, m3, ?_, ?_⟩
                  · rw [List.length_zip]
                    have := t.length
                    omega
                  · rw [hws]
                    exact q2 F2 r2 _ σ e3 (relW_set w2 hw (fun e => nomatch e) hr ⟨dxx, ws, upd_same, RepL.mono e3 tw⟩) (l2.mono e3)
                · cases z
              · cases z
            · cases z
          · cases z
        · cases z
    · cases h
  sts := fun x h => by simp [chkSs] at h
theorem ss_sct (i : Nat) (fz : Bool) (elt : IE) (tg : IG) (it cond : IE) (own : List Nat) : Ss T N (.sct i fz elt tg it cond own) where
  st := fun {E sc k X st} x h => by
    unfold chkS at h
    split at h
    · rename_i y py el gs s pe pos
      obtain ⟨h1, h⟩ := bool_and h
      obtain ⟨h2, h3⟩ := bool_and h
      have hsw := (swaps_lc (el := el) (gs := gs) (s := s) (pe := pe) (py := py) (y := y) (pos := pos) x.hs x.kind).trans (by rw [h2])
      have hloc : X.env.scope.names.lookup y = some .local := by
        unfold swLc at h2
        rw [x.hs]
        exact beq_iff_eq.mp (bool_and h2).1
      obtain ⟨el', t, iter, ifs, s', pos', e0, p1, p2, p3, p4, p5, p6, p7⟩ := comp_parts (sd elt) (sd it) (sd cond) x.toXOk h3
      cases e0
      refine PS.imp (ps_setLc (wi := tII X.K T.G E (ev T.tb it).i) (g := gI X.K T.G tg) (tt := tIT X.K T.G E0 (ev T.tb cond).t) (te := tI X.K T.G E0 (ev T.tb elt).e) x.calm (by rw [x.hN]; exact x.nd) (by rw [x.hN]; exact of_decide_eq_true h1) hloc hsw p1 p2 p3 p4 p5 p6) fun D σ H q => ?_
      obtain ⟨F, r, env, W, w, l, q⟩ := q
      refine p7 σ H _ ?_
      have q : PostS X.K T.G E D F r H (((ev T.tb (if fz then .comp elt tg it cond own else .mco elt tg it cond own)).e env W).on fun d W1 => if i < env.length then .nx (env.set i (some d)) W1 else .no) := q
      have q2 : ∀ res : Res VI.D, PostS X.K T.G E D F r H (res.on fun d W1 => if i < env.length then .nx (env.set i (some d)) W1 else .no) → Post X.K T.G E (fun v H' => D.nx (σ.set i (some v)) H') F r H res := fun res q => by
        cases res with
        | no => exact q
        | exc c ys W1 => exact q
        | ok d W1 =>
          intro F' r' H' v e' w' pv
          have q : PostS X.K T.G E D F r H (if i < env.length then .nx (env.set i (some d)) W1 else .no) := q
          split at q
          · rename_i hi
            exact q F' r' H' _ e' w' ((l.mono e').set hi pv)
          · exact q.elim
      cases fz with
      | true => exact ⟨F, r, env, W, w, l, _, q2 _ q, fun D F1 r1 H1 F2 r2 H2 vs zs W3 hD e2 w2 nf nr hd t q => comp_fz hD e2 w2 nf nr hd t q⟩
      | false => exact ⟨F, r, env, W, w, l, _, q2 _ q, fun D F1 r1 H1 F2 r2 H2 vs zs W3 hD e2 w2 nf nr hd t q => comp_mu hD e2 w2 nf nr hd t q⟩
    · cases h
  sts := fun x h => by simp [chkSs] at h
theorem walk_w {K : PySem.W.Frag} {a l C : Addr} {attr : Str} {xs : List V} : Walk (Iw K a l C attr xs.length) xs.length (fun H => Gw K a l C attr xs.length H ∧ SqL K H l xs) (YPair (fun i => some (.int (i : Nat))) (fun i => xs[i]?)) :=
  ⟨fun i _ hi q => ⟨q.1, hi⟩, fun _ q => ⟨q.1, rfl⟩, fun i H v H' hi q y => walk_enum.yields i H v H' hi q.2 y⟩
theorem ss_forw (g : IG) (m : Nat) (o : IE) {b : SE} (hb : Ss T N b) : Ss T N (.forw g m o b) where
  st := fun {E sc k X st} x h => by
    unfold chkS at h
    split at h
    · rename_i t y nm ap p body pos
      obtain ⟨h1, h⟩ := bool_and h
      obtain ⟨h2, h⟩ := bool_and h
      obtain ⟨h3, h⟩ := bool_and h
      obtain ⟨h4, h⟩ := bool_and h
      obtain ⟨h5, h⟩ := bool_and h
      obtain ⟨h6, h7⟩ := bool_and h
      have pi := pi_walk (tg := t) (m := nm) ((sd o).e x.toXOk h5) (x.fx.fre _ (of_decide_eq_true h2)) x.calm x.room (meth_tree (args := []) h3 h4 rfl rfl)
      refine PS.imp (ps_forG (g := gI X.K T.G g) (tb := tS X.K T.G E (evS T.tb b)) x.own x.wake pi ((pg_of x.toXOk (fun z _ => x.fn z) g).1 t h6) (hb.sts x h7) (fun _ => rfl)) fun D σ H q => ?_
      obtain ⟨F, r, env, W, w, l, q⟩ := q
      refine tI.useS w l q fun d W1 F1 r1 H1 v e1 w1 l1 p1 q1 => ?_
      split at q1
      · rename_i c fs
        split at q1
        · rename_i i hi
          split at q1
          · rename_i xs hx
            obtain ⟨nm', attr, m1, c1, c2, c3, c4, c5, c6⟩ := x.fx.wlk c m i hi
            rw [of_decide_eq_true h1] at m1
            cases m1
            have p1' := p1
            simp only [Rep] at p1
            obtain ⟨a, dx, vs, ev, hF, hH, t1⟩ := p1
            obtain ⟨v1, hv1, r1'⟩ := t1.get hx
            obtain ⟨lp, ws, ev1, stl, tl⟩ := stay_lst r1'
            subst ev1
            have gw : ∀ F' r' H', Ext F1 r1 H1 F' r' H' → Gw X.K a lp (T.G.clsA c) attr ws.length H' ∧ SqL X.K H' lp ws := fun F' r' H' e => by
              have q := stl F' r' H' e
              exact ⟨⟨⟨dx, _, (e.fz a hF).2.trans hH, lookup_zip_some c4 c3 hv1⟩, ws, q, rfl⟩, q⟩
            refine ⟨a, dx, _, lp, ws.length, _, attr, ev, hH, lookup_zip_none c5, c1, c2, c6, (gw _ _ _ .refl).1, ?_⟩
            have io : IterOk X.K T.G (Iw X.K a lp (T.G.clsA c) attr ws.length) (enumL 0 xs) F1 r1 H1 := iter_pair walk_w (by rw [enumL_len, tl.length]) gw fun i p hp => by
              obtain ⟨z, hz, e⟩ := enumL_get _ _ _ _ hp
              obtain ⟨u, hu, pu⟩ := tl.get hz
              exact ⟨_, _, _, _, e, rfl, hu, by rw [Nat.zero_add]; exact rep_int, pu⟩
            exact for_core io w1 l1 q1
          · exact q1.elim
        · exact q1.elim
      · exact q1.elim
    · cases h
  sts := fun x h => by simp [chkSs] at h
theorem ss_gho (i : Nat) {s : SE} (hs : Ss T N s) : Ss T N (.gho i s) where
  st := fun {E sc k X st} x h => by
    unfold chkS at h
    refine PS.imp (hs.st x h) fun D σ H q => ?_
    obtain ⟨F, r, env, W, w, l, q⟩ := q
    have q : PostS X.K T.G E D F r H (match env[i]? with
      | some (some d) => (frz d W).on fun d1 W1 => evS T.tb s (env.set i (some d1)) W1
      | _ => .no) := q
    split at q
    · rename_i d hd
      obtain ⟨v, hv, p⟩ := l.at_ i d hd
      have hi : i < env.length := (List.getElem?_eq_some_iff.mp hd).1
      have key : Post X.K T.G E (fun v' H' => v' = v → H' = H → tS X.K T.G E (evS T.tb s) D σ H) F r H (frz d W) := by
        cases z : frz d W with
        | no => rw [z] at q; exact q.elim
        | exc c xs W1 => rw [z] at q; exact q
        | ok d1 W1 =>
          rw [z] at q
          intro F' r' H' v' e w1 p1 ev eH
          subst ev eH
          have q1 : PostS X.K T.G E D F r H' (evS T.tb s (env.set i (some d1)) W1) := q
          have l1 := (l.mono e).set hi p1
          have es : σ.set i (some v') = σ := by
            apply List.ext_getElem?
            intro j
            rw [List.getElem?_set]
            split
            · rename_i hj
              subst hj
              split
              · exact hv.symm
              · rename_i hn
                exact absurd (by rw [← l.len]; exact hi) hn
            · rfl
          rw [es] at l1
          exact ⟨F', r', _, W1, w1, l1, PostS.back w1.rh e q1⟩
      exact frz_ok w p key rfl rfl
    · exact q.elim
  sts := fun x h => by simp [chkSs] at h
theorem ss : ∀ s : SE, Ss T N s
  | .skip => ss_skip
  | .nil => ss_nil
  | .seq a b => ss_seq (ss a) (ss b)
  | .ex e => ss_ex e
  | .ret e => ss_ret e
  | .retN => ss_retN
  | .set g e => ss_set g e
  | .par is es => ss_par is es
  | .sct i fz elt tg it cond own => ss_sct i fz elt tg it cond own
  | .ite c a b => ss_ite c (ss a) (ss b)
  | .forr g it b => ss_forr g it (ss b)
  | .forw g m o b => ss_forw g m o (ss b)
  | .whl c b => ss_whl c (ss b)
  | .brk => ss_brk
  | .gho i s => ss_gho i (ss s)
  | .cnt => ss_cnt
  | .aug o i e => ss_aug o i e
  | .sti o i e => ss_sti o i e
  | .sta m o e => ss_sta m o e
  | .unk => ss_unk
end VI
-- VV
set_option Elab.async false
set_option linter.all false
set_option maxRecDepth 100000
set_option maxHeartbeats 2000000
namespace VI
open PySem PySem.Spec PyProof.Rows L2

/-! ### defs -/
/-- a def for the evaluation: how many names, how many parameters (the starred one among them), its body -/
structure DfI where
  nn : Nat
  np : Nat
  star : Bool
  body : SE
def env0 (n : Nat) (ds : List D) : EnvD := ds.map some ++ List.replicate (n - ds.length) none
def endS : SR → Res D
  | .nx _ W => .ok .non W
  | .ret d W => .ok d W
  | .exc c xs W => .exc c xs W
  | _ => .no
def runF (T : Tb) (d : DfI) (ds : List D) (W : Wd) : Res D :=
  if d.star then (if Nat.ble d.np (ds.length + 1) && fits (ds.length - (d.np - 1)) then endS (evS T d.body (env0 d.nn (ds.take (d.np - 1) ++ [.tup (ds.drop (d.np - 1))])) W) else .no)
  else (if ds.length == d.np then endS (evS T d.body (env0 d.nn ds) W) else .no)

section
variable {P : Program} {w : World} {K : PySem.W.Frag} {mg : Str → Option Value} {base : Heap} {T : Tab} {N ps : List Str} {k : Nat} {f : Addr} {fd : FuncData} {name qual : Str} {params : Arguments} {body : List Stmt} {scope : Scope} {ir : SE} {E : XK}
/-- all defs that are called by a name's argument -/
def KwAll (P : Program) (w : World) (K : PySem.W.Frag) (mg : Str → Option Value) (base : Heap) (k : Nat) (T : Tab) : Prop :=
  ∀ f x kw, T.n.kwn[f]? = some (x, kw) → mg x = some (.ref (T.fka f)) ∧ PySem.W.keepIn K (.ref (T.fka f)) = true ∧ FnK P w K mg base k (T.fka f) kw (spR K T.G (T.tb.ck f))
theorem sok_of {cdv : Value} {A : Around} {outer : List Env} {s : Shared} {H : Hp} (fx : Facts T K mg) (hclk : KwAll P w K mg base k T) (hcls : ∀ f, FnR P w K mg base (CX P w) k (T.fna f) (spR K T.G (T.tb.cl f))) (S : FnScope N ps scope) (hr : Room (k + 1) (A.deeper (envOfC qual scope s.heap.objs.size f cdv))) :
    SOk T E scope N k (cxOf (CX P w) P w K mg base N qual scope f cdv A outer s H E) where
  fx := fx
  hN := rfl
  nd := S.nd
  hs := rfl
  calm := rfl
  pass := passes_call (takes_of rfl rfl rfl rfl) (fun _ _ _ _ h => h)
  room := hr
  clk := hclk
  cls := hcls
  own := passes_of rfl
  fn := fun _ => rfl
  kind := S.kind
  wake := xeWake_leave rfl
theorem relE_start {G : Cls_} {F : Addr → Prop} {r : List Addr} {H : Hp} {ds : List D} {vs : List V} (t : RepL K G F r H ds vs) (hl : ds.length ≤ N.length) : RelE K G F r H (env0 N.length ds) (L2.start N vs) := by
  have hlen := t.length
  refine ⟨by unfold env0 L2.start; simp [hlen], fun i d h => ?_⟩
  unfold env0 at h
  by_cases hi : i < ds.length
  · rw [List.getElem?_append_left (by simpa using hi), List.getElem?_map] at h
    cases hd : ds[i]? with
    | none => rw [hd] at h; cases h
    | some x =>
      rw [hd] at h; cases h
      obtain ⟨v, hv, p⟩ := t.get hd
      refine ⟨v, ?_, p⟩
      unfold L2.start
      rw [List.getElem?_append_left (by rw [List.length_map, ← hlen]; exact hi), List.getElem?_map, hv]
      rfl
  · rw [List.getElem?_append_right (by simpa using hi), List.getElem?_replicate] at h
    split at h <;> cases h
theorem body_ok {cdv : Value} {A : Around} {outer : List Env} {s : Shared} {H : Hp} {Q : VK} {vs : List V} {ds : List D} {F : Addr → Prop} {r : List Addr} {W : Wd} (x : SOk T E scope N k (cxOf (CX P w) P w K mg base N qual scope f cdv A outer s H E))
    (hc : chkSs T.n N ir scope body = true) (rw_ : RelW K T.G F r H W) (t : RepL K T.G F r H ds vs) (hl : ds.length ≤ N.length) (q : Post K T.G E Q F r H (endS (evS T.tb ir (env0 N.length ds) W))) :
    ∃ t, PSs (cxOf (CX P w) P w K mg base N qual scope f cdv A outer s H E) body t ∧ t { nx := fun _ H' => Q .non H', rt := Q } (L2.start N vs) H := by
  refine ⟨_, (ss ir).sts x hc, F, r, _, W, rw_, relE_start t hl, ?_⟩
  cases z : evS T.tb ir (env0 N.length ds) W with
  | nx env W1 => rw [z] at q; exact fun F' r' H' σ' e w l => q F' r' H' .non e w rep_non
  | ret d W1 => rw [z] at q; exact q
  | brk env W1 => rw [z] at q; exact q.elim
  | ct env W1 => rw [z] at q; exact q.elim
  | exc c xs W1 => rw [z] at q; exact q
  | no => rw [z] at q; exact q.elim
theorem def_fok (fx : Facts T K mg) (hclk : KwAll P w K mg base k T) (hcls : ∀ f, FnR P w K mg base (CX P w) k (T.fna f) (spR K T.G (T.tb.cl f))) (F : FunD K name qual params body scope [] [] f fd) (S : FnScope N ps scope) (hps : ps.length ≤ N.length)
    (hc : chkSs T.n N ir scope body = true) : FnOk P w K mg base (CX P w) (k + 1 + 1) f fd ps (spR K T.G (runF T.tb ⟨N.length, ps.length, false, ir⟩)) := by
  have split_ : ∀ {vs : List V} {H : Hp} {Q : VK} {E : XK}, spR K T.G (runF T.tb ⟨N.length, ps.length, false, ir⟩) vs H Q E → ∃ F r W ds, RelW K T.G F r H W ∧ RepL K T.G F r H ds vs ∧ ds.length = ps.length ∧ Post K T.G E Q F r H (endS (evS T.tb ir (env0 N.length ds) W)) := by
    rintro vs H Q E ⟨F, r, W, ds, w, t, q⟩
    unfold runF at q
    simp only [Bool.false_eq_true, if_false] at q
    split at q
    · rename_i hl
      exact ⟨F, r, W, ds, w, t, beq_iff_eq.mp hl, q⟩
    · exact q.elim
  refine F.ok S (fun vs H Q E h => ?_) fun cdv A outer s H vs Q E hr h => ?_
  · obtain ⟨_, _, _, ds, _, t, hl, _⟩ := split_ h
    rw [← t.length]; exact hl
  · obtain ⟨F, r, W, ds, rw_, t, hl, q⟩ := split_ h
    exact body_ok (sok_of fx hclk hcls S hr) hc rw_ t (by rw [hl]; exact hps) q
theorem def_ok (fx : Facts T K mg) (hclk : KwAll P w K mg base k T) (hcls : ∀ f, FnR P w K mg base (CX P w) k (T.fna f) (spR K T.G (T.tb.cl f))) (F : FunD K name qual params body scope [] [] f fd) (S : FnScope N ps scope) (hps : ps.length ≤ N.length)
    (hb : ∀ (kV doc pm : Value) (an : Option Addr) (cdv ct : Value) (us : List Value), us.length = ps.length → bindArgs (PySem.W.fnOf name qual params body scope .none kV doc pm an cdv ct) ⟨us, []⟩ = pure (ps.zip us))
    (hc : chkSs T.n N ir scope body = true) : FnR P w K mg base (CX P w) (k + 2) f (spR K T.G (runF T.tb ⟨N.length, ps.length, false, ir⟩)) := by
  have r := (def_fok fx hclk hcls F S hps hc).raw (F.bindsN hb) .nil
  exact r.imp fun vs H Q E h => by rw [List.append_nil]; exact h
theorem def_star {pv : Str} (fx : Facts T K mg) (hclk : KwAll P w K mg base k T) (hcls : ∀ f, FnR P w K mg base (CX P w) k (T.fna f) (spR K T.G (T.tb.cl f))) (F : FunD K name qual params body scope [] [] f fd) (S : FnScope N (ps ++ [pv]) scope) (hps : ps.length + 1 ≤ N.length)
    (hb : ∀ (kV doc pm : Value) (an : Option Addr) (cdv ct : Value) (us rest : List Value), us.length = ps.length → bindArgs (PySem.W.fnOf name qual params body scope .none kV doc pm an cdv ct) ⟨us ++ rest, []⟩ = (newTuple rest >>= fun t => pure (ps.zip us ++ [(pv, t)])))
    (hc : chkSs T.n N ir scope body = true) : FnR P w K mg base (CX P w) (k + 2) f (spR K T.G (runF T.tb ⟨N.length, ps.length + 1, true, ir⟩)) := by
  obtain ⟨oc, od, dV, kV, doc, pm, an, cdv, ct, osl, rfl, lk, hcd, hD, hK⟩ := F.ex
  rcases hD with ⟨_, rfl⟩ | ⟨e, _⟩
  · have r := StX.fn_star (CX := CX P w) (k := k + 1) (sp := fun vs H Q E => ∃ F r W ds, RelW K T.G F r H W ∧ RepL K T.G F r H ds vs ∧ ds.length = ps.length + 1 ∧ Post K T.G E Q F r H (endS (evS T.tb ir (env0 N.length ds) W))) lk hcd S StX.cxUp (hb kV doc pm an cdv ct)
      fun A outer s H vs Q E hr ⟨F, r, W, ds, rw_, t, hl, q⟩ => body_ok (sok_of fx hclk hcls S hr) hc rw_ t (by rw [hl]; exact hps) q
    refine r.imp fun vs H Q E h => ?_
    obtain ⟨F, r, W, ds, rw_, t, q⟩ := h
    unfold runF at q
    simp only [if_true] at q
    split at q
    · rename_i hz
      obtain ⟨h1, h2⟩ := bool_and hz
      have h1 := Nat.le_of_ble_eq_true h1
      have h2 := fits_le h2
      have e1 : ps.length + 1 - 1 = ps.length := by omega
      rw [e1] at q h2
      have hl := t.length
      refine ⟨vs.take ps.length, vs.drop ps.length, (List.take_append_drop ..).symm, by rw [List.length_take]; omega, by rw [List.length_drop]; omega, fun p hp => ?_⟩
      obtain ⟨e, w2, pt⟩ := new_tup rw_ hp (t.drop ps.length)
      refine ⟨_, _, W, ds.take ps.length ++ [.tup (ds.drop ps.length)], w2, (RepL.mono e (t.take ps.length)).append (.cons' pt .nil'), ?_, isP.back _ _ _ _ _ _ _ w2.rh e q⟩
      rw [List.length_append, List.length_take, List.length_singleton]
      omega
    · exact q.elim
  · exact absurd rfl e
theorem def_kw {x kw : Str} (fx : Facts T K mg) (hclk : KwAll P w K mg base k T) (hcls : ∀ f, FnR P w K mg base (CX P w) k (T.fna f) (spR K T.G (T.tb.cl f))) (F : FunD K name qual params body scope [] [] f fd) (S : FnScope N [kw] scope) (hps : 1 ≤ N.length)
    (hb : ∀ (kV doc pm : Value) (an : Option Addr) (cdv ct u : Value), bindArgs (PySem.W.fnOf name qual params body scope .none kV doc pm an cdv ct) ⟨[], [(kw, u)]⟩ = pure [(kw, u)])
    (hc : chkSs T.n N ir scope body = true) : FnK P w K mg base (k + 2) f kw (spR K T.G (runF T.tb ⟨N.length, 1, false, ir⟩)) := by
  have split_ : ∀ {vs : List V} {H : Hp} {Q : VK} {E : XK}, spR K T.G (runF T.tb ⟨N.length, 1, false, ir⟩) vs H Q E → ∃ F r W ds, RelW K T.G F r H W ∧ RepL K T.G F r H ds vs ∧ ds.length = 1 ∧ Post K T.G E Q F r H (endS (evS T.tb ir (env0 N.length ds) W)) := by
    rintro vs H Q E ⟨F, r, W, ds, w, t, q⟩
    unfold runF at q
    simp only [Bool.false_eq_true, if_false] at q
    split at q
    · rename_i hl
      exact ⟨F, r, W, ds, w, t, beq_iff_eq.mp hl, q⟩
    · exact q.elim
  have ok : FnOk P w K mg base (CX P w) (k + 1 + 1) f fd [kw] (spR K T.G (runF T.tb ⟨N.length, 1, false, ir⟩)) := by
    refine F.ok S (fun vs H Q E h => ?_) fun cdv A outer s H vs Q E hr h => ?_
    · obtain ⟨_, _, _, ds, _, t, hl, _⟩ := split_ h
      rw [← t.length]; exact hl
    · obtain ⟨F, r, W, ds, rw_, t, hl, q⟩ := split_ h
      exact body_ok (sok_of fx hclk hcls S hr) hc rw_ t (by rw [hl]; exact hps) q
  intro A outer s H u v Q E hr e0 ru hs
  obtain ⟨oc, od, dV, kV, doc, pm, an, cdv, ct, osl, e1, lk, hcd, hD, hK⟩ := F.ex
  refine ok.run A outer s H ⟨[], [(kw, u)]⟩ [u] [v] Q E hr e0 ?_ (.cons ru .nil) hs
  subst e1
  rcases hD with ⟨_, hdv⟩ | ⟨e, _⟩
  · subst hdv
    exact BindsTo.of_eq (hb _ _ _ _ _ _ _)
  · exact absurd rfl e
theorem fnR_no {sp : Sp} {f : Addr} (h : ∀ vs H Q E, ¬ sp vs H Q E) : FnR P w K mg base (CX P w) k f sp := fun A outer s H us vs Q E hr e0 r hs => absurd hs (h vs H Q E)
end
end VI
-- VW
set_option Elab.async false
set_option linter.all false
set_option maxRecDepth 100000
set_option maxHeartbeats 2000000
namespace VI
open PySem PySem.Spec PyProof.Rows L2

/-! ### the head: facts of the module, looked at in the kernel -/
structure Ttb where
  n : Nm
  gls : List D
  flds : List (List Str)
  paths : List (Str × Option Str)
  fldL : List (Nat × Nat × Nat) := []
  mthL : List (Nat × Nat × Nat) := []
  isaL : List (Nat × TyC × Bool) := []
  iniL : List Nat := []
  lnmL : List (Nat × Nat) := []
  catL : List (Nat × Nat × D) := []
  wlkL : List (Nat × Nat × Nat) := []
  ckL : List Nat := []
def eqTy : TyC → TyC → Bool
  | .b m, .b n => m == n
  | .c m, .c n => m == n
  | _, _ => false
theorem eqTy_ok {s t : TyC} (h : eqTy s t = true) : s = t := by
  cases s <;> cases t <;> simp [eqTy] at h <;> subst h <;> rfl
def sel2 {α : Type} : List (Nat × Nat × α) → Nat → Nat → Option α
  | [], _, _ => none
  | (a, b, x) :: r, c, m => if a == c && b == m then some x else sel2 r c m
def selT : List (Nat × TyC × Bool) → Nat → TyC → Option Bool
  | [], _, _ => none
  | (a, b, x) :: r, c, m => if a == c && eqTy b m then some x else selT r c m
def sel1 {α : Type} : List (Nat × α) → Nat → Option α
  | [], _ => none
  | (a, x) :: r, c => if a == c then some x else sel1 r c
theorem sel2_mem {α : Type} : ∀ {l : List (Nat × Nat × α)} {c m : Nat} {x : α}, sel2 l c m = some x → (c, m, x) ∈ l
  | [], _, _, _, h => by cases h
  | (a, b, y) :: r, c, m, x, h => by
    unfold sel2 at h
    split at h
    · rename_i z
      obtain ⟨h1, h2⟩ := bool_and z
      have e1 := beq_iff_eq.mp h1
      have e2 := beq_iff_eq.mp h2
      cases h
      subst e1 e2
      exact List.mem_cons_self
    · exact List.mem_cons_of_mem _ (sel2_mem h)
theorem selT_mem : ∀ {l : List (Nat × TyC × Bool)} {c : Nat} {m : TyC} {x : Bool}, selT l c m = some x → (c, m, x) ∈ l
  | [], _, _, _, h => by cases h
  | (a, b, y) :: r, c, m, x, h => by
    unfold selT at h
    split at h
    · rename_i z
      obtain ⟨h1, h2⟩ := bool_and z
      have e1 := beq_iff_eq.mp h1
      have e2 := eqTy_ok h2
      cases h
      subst e1 e2
      exact List.mem_cons_self
    · exact List.mem_cons_of_mem _ (selT_mem h)
theorem sel1_mem {α : Type} : ∀ {l : List (Nat × α)} {c : Nat} {x : α}, sel1 l c = some x → (c, x) ∈ l
  | [], _, _, h => by cases h
  | (a, y) :: r, c, x, h => by
    unfold sel1 at h
    split at h
    · rename_i z
      have e1 := beq_iff_eq.mp z
      cases h
      subst e1
      exact List.mem_cons_self
    · exact List.mem_cons_of_mem _ (sel1_mem h)
/-- the evaluation's tables, with what calls do -/
def Ttb.tb (t : Ttb) (cl : Nat → List D → Wd → Res D) : Tb where
  gl := fun g => t.gls.getD g .non
  cl := cl
  fld := sel2 t.fldL
  mth := sel2 t.mthL
  isa := selT t.isaL
  ini := fun c => t.iniL.getD c 0
  lnm := sel1 t.lnmL
  cat := sel2 t.catL
  wlk := sel2 t.wlkL
  ck := fun f => cl (t.ckL.getD f 0)
def Ttb.cA (t : Ttb) (K : PySem.W.Frag) (c : Nat) : Addr := He.ga K (t.n.cln.getD c "")
def Ttb.tab (t : Ttb) (K : PySem.W.Frag) (cl : Nat → List D → Wd → Res D) : Tab where
  n := t.n
  G := ⟨t.cA K, fun c => t.flds.getD c []⟩
  tb := t.tb cl
  fna := fun f => He.fAd K (t.paths.getD f ("", none))
  fka := fun f => He.fAd K ((t.n.kwn.getD f ("", "")).1, none)
def allF {α : Type} (f : Nat → α → Bool) : Nat → List α → Bool
  | _, [] => true
  | i, x :: xs => f i x && allF f (i + 1) xs
theorem allF_at {α : Type} {f : Nat → α → Bool} : ∀ {l : List α} {n i : Nat} {x : α}, allF f n l = true → l[i]? = some x → f (n + i) x = true
  | [], _, _, _, _, e => by simp at e
  | y :: ys, n, 0, x, h, e => by
    simp at e; subst e
    exact (bool_and h).1
  | y :: ys, n, i + 1, x, h, e => by
    have z := allF_at (n := n + 1) (i := i) (x := x) (bool_and h).2 (by simpa using e)
    rw [show n + (i + 1) = n + 1 + i by omega]
    exact z

/-! ### values of the module -/
mutual
def repB (K : PySem.W.Frag) : D → Value → Bool
  | .non, u => match u with
    | .none => true
    | _ => false
  | .bl b, u => match u with
    | .bool c => b == c
    | _ => false
  | .int i, u => match u with
    | .int j _ => decide (i = j)
    | _ => false
  | .str x, u => match u with
    | .str y _ => decide (y = ⟨x.toArray⟩)
    | _ => false
  | .tup xs, u => match u with
    | .ref a => match K.lookup a with
      | some ⟨.type c, _, .seq its _, _⟩ => decide (c = "tuple") && (decide (its.size ≤ sizeLine) && repBs K xs its.toList)
      | _ => false
    | _ => false
  | _, _ => false
def repBs (K : PySem.W.Frag) : List D → List Value → Bool
  | [], us => match us with
    | [] => true
    | _ => false
  | x :: xs, us => match us with
    | u :: us => repB K x u && repBs K xs us
    | _ => false
end
mutual
theorem repB_ok {K : PySem.W.Frag} {G : Cls_} : ∀ {d : D} {u : Value}, repB K d u = true → ∃ v, RelV v u ∧ ∀ F r H, Rep K G F r H d v
  | .non, u, h => by
    cases u <;> first | (exfalso; simp only [repB] at h; cases h; done) | skip
    exact ⟨.non, rfl, fun F r H => rep_non⟩
  | .bl b, u, h => by
    cases u <;> first | (exfalso; simp only [repB] at h; cases h; done) | skip
    simp only [repB, beq_iff_eq] at h
    subst h
    exact ⟨.bl b, rfl, fun F r H => rep_bl⟩
  | .int i, u, h => by
    cases u <;> first | (exfalso; simp only [repB] at h; cases h; done) | skip
    simp only [repB, decide_eq_true_eq] at h
    subst h
    exact ⟨.int i, ⟨_, rfl⟩, fun F r H => rep_int⟩
  | .str x, u, h => by
    cases u <;> first | (exfalso; simp only [repB] at h; cases h; done) | skip
    simp only [repB, decide_eq_true_eq] at h
    subst h
    exact ⟨.str _, ⟨_, rfl⟩, fun F r H => rep_str⟩
  | .tup xs, u, h => by
    cases u <;> first | (exfalso; simp only [repB] at h; cases h; done) | skip
    rename_i a
    simp only [repB] at h
    cases q : K.lookup a with
    | none => rw [q] at h; cases h
    | some o =>
      rw [q] at h
      obtain ⟨oc, od, dt, osl⟩ := o
      cases oc <;> cases dt <;> first | (cases h; done) | skip
      rename_i c its n
      obtain ⟨h1, h⟩ := bool_and h
      obtain ⟨h2, h3⟩ := bool_and h
      obtain ⟨vs, rv, rl⟩ := repBs_ok (G := G) h3
      refine ⟨.ref a, rfl, fun F r H => ?_⟩
      simp only [Rep]
      exact ⟨a, vs, rfl, .inr ⟨_, its, n, q, congrArg Value.type (of_decide_eq_true h1), rfl, of_decide_eq_true h2, rv⟩, rl F r H⟩
  | .lst xs, u, h => by simp only [repB] at h; cases h
  | .ins c xs, u, h => by simp only [repB] at h; cases h
  | .hd n, u, h => by simp only [repB] at h; cases h
theorem repBs_ok {K : PySem.W.Frag} {G : Cls_} : ∀ {ds : List D} {us : List Value}, repBs K ds us = true → ∃ vs, Vals vs us ∧ ∀ F r H, RepL K G F r H ds vs
  | [], us, h => by
    cases us with
    | nil => exact ⟨[], .nil, fun F r H => RepL.nil'⟩
    | cons u us => simp only [repBs] at h; cases h
  | x :: xs, us, h => by
    cases us with
    | nil => simp only [repBs] at h; cases h
    | cons u us =>
      simp only [repBs] at h
      obtain ⟨h1, h2⟩ := bool_and h
      obtain ⟨v, rv, rp⟩ := repB_ok (G := G) h1
      obtain ⟨vs, rvs, rps⟩ := repBs_ok (G := G) h2
      exact ⟨v :: vs, .cons rv rvs, fun F r H => RepL.cons' (rp F r H) (rps F r H)⟩
end

/-! ### the look -/
def gloB (K : PySem.W.Frag) (x : Str) (d : D) : Bool := match PySem.W.nsIn K mainGlobals x with
  | some (some u) => repB K d u
  | _ => false
def ndB (l : List Str) : Bool := decide l.Nodup
section
variable (t : Ttb) (K : PySem.W.Frag)
def Ttb.cN (c : Nat) : Str := t.n.cln.getD c ""
def Ttb.mN (m : Nat) : Str := t.n.mnm.getD m ""
def Ttb.fA (f : Nat) : Addr := He.fAd K (t.paths.getD f ("", none))
def fldOk (e : Nat × Nat × Nat) : Bool := decide (t.n.mnm[e.2.1]? = some (t.mN e.2.1)) && ((He.Fa.cls (t.cN e.1)).ok K && ((He.Fa.noat (t.cN e.1) (t.mN e.2.1)).ok K && (decide ((t.flds.getD e.1 [])[e.2.2]? = some (t.mN e.2.1)) && ndB (t.flds.getD e.1 []))))
def methB (C : Addr) (m : Str) (f : Addr) : Bool := He.eqO (PySem.W.findIn K (.ref C) m) (some (some (.ref f))) && (PySem.W.isFn K (.ref f) && PySem.W.keepIn K (.ref f))
def mthOk (e : Nat × Nat × Nat) : Bool := decide (t.n.mnm[e.2.1]? = some (t.mN e.2.1)) && ((He.Fa.cls (t.cN e.1)).ok K && (methB K (t.cA K e.1) (t.mN e.2.1) (t.fA K e.2.2) && !(t.flds.getD e.1 []).contains (t.mN e.2.1)))
def tyW : TyC → Value
  | .b n => .type n
  | .c c => .ref (t.cA K c)
def isaOk (e : Nat × TyC × Bool) : Bool := decide (PySem.W.kitOne K (.ref (t.cA K e.1)) (tyW t K e.2.1) = some e.2.2) && ((He.Fa.cls (t.cN e.1)).ok K && (He.eqO (PySem.W.findIn K (.ref (t.cA K e.1)) "__class__") (some (some (.builtin "object.__class__"))) &&
  (He.eqO (PySem.W.specialIn K (.builtin "object.__class__") "__get__") (some (some (.builtin "getset_descriptor.__get__"))) && (decide (PySem.W.takesIn K (.builtin "object.__class__") = some true) && decide (PySem.W.mroIn K (t.cA K e.1) (.type "object") = some true)))))
def lnmOk (e : Nat × Nat) : Bool := (He.Fa.cls (t.cN e.1)).ok K && methB K (t.cA K e.1) "__len__" (t.fA K e.2)
def catV (C : Addr) (x : Str) (d : D) : Bool := match PySem.W.findCls K (.ref C) (.type "type") x with
  | some (.val u) => repB K d u
  | _ => false
def catOk (e : Nat × Nat × D) : Bool := decide (t.n.mnm[e.2.1]? = some (t.mN e.2.1)) && (PySem.W.readsIn K (t.cA K e.1) (.type "type") && (He.eqO (PySem.W.specialIn K (.ref (t.cA K e.1)) "__getattribute__") (some (some (.builtin "type.__getattribute__"))) && catV K (t.cA K e.1) (t.mN e.2.1) e.2.2))
def wlkOk (e : Nat × Nat × Nat) : Bool := decide (t.n.mnm[e.2.1]? = some (t.mN e.2.1)) && ((He.Fa.cls (t.cN e.1)).ok K && (match (t.flds.getD e.1 [])[e.2.2]? with
  | some attr => (He.Fa.noat (t.cN e.1) attr).ok K
  | none => false) && (ndB (t.flds.getD e.1 []) && (!(t.flds.getD e.1 []).contains (t.mN e.2.1) && methB K (t.cA K e.1) (t.mN e.2.1) (He.fAd K (t.cN e.1, some (t.mN e.2.1))))))
/-- the module holds no list -/
def noLst : Bool := K.all fun e => match e.2.cls with
  | .type c => !(decide (c = "list"))
  | _ => true
def makOk (c : Nat) (x : Str) : Bool := (x == "") || (He.eqO (PySem.W.nsIn K mainGlobals x) (some (some (.ref (t.cA K c)))) && (decide (t.cN c = x) && ((He.Fa.mkr x).ok K && decide (t.paths.getD (t.iniL.getD c 0) ("", none) = ((x, some "__init__") : Str × Option Str)))))
def iscOk (c : Nat) (x : Str) : Bool := (x == "") || tyMs.all fun m => decide (PySem.W.kitOne K (.type m) (.ref (t.cA K c)) = some false)
def fnkOk (f : Nat) (x : Str) : Bool := (x == "") || ((He.Fa.glo x).ok K && (decide (t.paths.getD f ("", none) = (x, none)) && PySem.W.keepIn K (.ref (t.fA K f))))
def kwnOk (f : Nat) (q : Str × Str) : Bool := (He.Fa.glo q.1).ok K && PySem.W.keepIn K (.ref (He.fAd K ((t.n.kwn.getD f ("", "")).1, none))) && decide (t.n.kwn.getD f ("", "") = q)
def factsB : Bool :=
  allF (fun g x => gloB K x (t.gls.getD g .non)) 0 t.n.gln && (t.n.free.all (fun x => (He.Fa.free x).ok K) && (allF (fnkOk t K) 0 t.n.fnn && (t.fldL.all (fldOk t K) && (t.mthL.all (mthOk t K) && (t.isaL.all (isaOk t K) &&
  (allF (iscOk t K) 0 t.n.cln && (t.lnmL.all (lnmOk t K) && (t.catL.all (catOk t K) && (t.wlkL.all (wlkOk t K) && (allF (makOk t K) 0 t.n.cln && (allF (kwnOk t K) 0 t.n.kwn && noLst K)))))))))))
end
section
variable {t : Ttb} {K : PySem.W.Frag} {h : Heap} {mg : Str → Option Value} {cl : Nat → List D → Wd → Res D}
theorem not_mem_of {l : List Str} {x : Str} (h : (!l.contains x) = true) : x ∉ l := fun m => by
  rw [List.contains_iff_mem.mpr m] at h
  cases h
theorem meth_of {C f : Addr} {m : Str} (h : methB K C m f = true) : Meth K C m f := by
  obtain ⟨c1, c⟩ := bool_and h
  obtain ⟨c2, c3⟩ := bool_and c
  exact ⟨He.eqO_ok c1, c2, c3⟩
theorem facts_of (X : K.In h) (g : h.Ns mainGlobals mg) (b : factsB t K = true) (hw : ∀ c m i, (c, m, i) ∈ t.wlkL → Meth K (t.cA K c) (t.mN m) (He.fAd K (t.cN c, some (t.mN m))) → ∀ attr, (t.flds.getD c [])[i]? = some attr → WalkM K (t.cA K c) (t.mN m) attr) : Facts (t.tab K cl) K mg := by
  obtain ⟨b1, b⟩ := bool_and b
  obtain ⟨b2, b⟩ := bool_and b
  obtain ⟨b3, b⟩ := bool_and b
  obtain ⟨b4, b⟩ := bool_and b
  obtain ⟨b5, b⟩ := bool_and b
  obtain ⟨b6, b⟩ := bool_and b
  obtain ⟨b7, b⟩ := bool_and b
  obtain ⟨b8, b⟩ := bool_and b
  obtain ⟨b9, b⟩ := bool_and b
  obtain ⟨b10, b⟩ := bool_and b
  obtain ⟨b11, b⟩ := bool_and b
  obtain ⟨b12, b13⟩ := bool_and b
  refine ⟨fun i x e => ?_, fun x m => ?_, fun f x e ne => ?_, fun c m i e => ?_, fun c m f e => ?_, fun c ty v e => ?_, fun c x e ne m hm => ?_, fun c f e => ?_, fun c m d e => ?_, fun c m i e => ?_, fun c x e ne => ?_⟩
  · have z := allF_at b1 e
    rw [Nat.zero_add] at z
    unfold gloB at z
    cases q : PySem.W.nsIn K mainGlobals x with
    | none => rw [q] at z; cases z
    | some o =>
      cases o with
      | none => rw [q] at z; cases z
      | some u =>
        rw [q] at z
        obtain ⟨v, rv, rp⟩ := repB_ok (G := (t.tab K cl).G) z
        exact ⟨u, v, PySem.W.mg_of X g q, rv, rp⟩
  · exact He.free_ok X g (List.all_eq_true.mp b2 x m)
  · have z := allF_at b3 e
    rw [Nat.zero_add] at z
    rcases Bool.or_eq_true_iff.mp z with z | z
    · exact absurd (beq_iff_eq.mp z) ne
    obtain ⟨z1, z⟩ := bool_and z
    obtain ⟨z2, z3⟩ := bool_and z
    refine ⟨?_, z3⟩
    have e2 := of_decide_eq_true z2
    have q := He.glo_ok X g z1
    show mg x = some (.ref (He.fAd K (t.paths.getD f ("", none))))
    rw [e2]
    exact q
  · obtain ⟨z1, z⟩ := bool_and (List.all_eq_true.mp b4 _ (sel2_mem e))
    obtain ⟨z2, z⟩ := bool_and z
    obtain ⟨z3, z⟩ := bool_and z
    obtain ⟨z4, z5⟩ := bool_and z
    exact ⟨t.mN m, of_decide_eq_true z1, He.cls_ok z2, He.noat_ok z3, of_decide_eq_true z4, of_decide_eq_true z5⟩
  · obtain ⟨z1, z⟩ := bool_and (List.all_eq_true.mp b5 _ (sel2_mem e))
    obtain ⟨z2, z⟩ := bool_and z
    obtain ⟨z3, z4⟩ := bool_and z
    exact ⟨t.mN m, of_decide_eq_true z1, He.cls_ok z2, meth_of z3, not_mem_of z4⟩
  · obtain ⟨z1, z⟩ := bool_and (List.all_eq_true.mp b6 _ (selT_mem e))
    obtain ⟨z2, z⟩ := bool_and z
    obtain ⟨z3, z⟩ := bool_and z
    obtain ⟨z4, z⟩ := bool_and z
    obtain ⟨z5, z6⟩ := bool_and z
    refine ⟨?_, He.cls_ok z2, He.eqO_ok z3, He.eqO_ok z4, of_decide_eq_true z5, of_decide_eq_true z6⟩
    have q := of_decide_eq_true z1
    cases ty with
    | b n => exact q
    | c n => exact q
  · have z := allF_at b7 e
    rw [Nat.zero_add] at z
    rcases Bool.or_eq_true_iff.mp z with z | z
    · exact absurd (beq_iff_eq.mp z) ne
    exact of_decide_eq_true (List.all_eq_true.mp z m hm)
  · obtain ⟨z1, z2⟩ := bool_and (List.all_eq_true.mp b8 _ (sel1_mem e))
    have q := meth_of z2
    exact ⟨He.cls_ok z1, q.at_, q.fn⟩
  · obtain ⟨z1, z⟩ := bool_and (List.all_eq_true.mp b9 _ (sel2_mem e))
    obtain ⟨z2, z⟩ := bool_and z
    obtain ⟨z3, z4⟩ := bool_and z
    unfold catV at z4
    cases q : PySem.W.findCls K (.ref (t.cA K c)) (.type "type") (t.mN m) with
    | none => rw [q] at z4; cases z4
    | some r =>
      rw [q] at z4
      cases r with
      | val u =>
        obtain ⟨v, rv, rp⟩ := repB_ok (G := (t.tab K cl).G) z4
        exact ⟨t.mN m, v, of_decide_eq_true z1, ⟨_, u, ⟨z2, He.eqO_ok z3⟩, ⟨q, rv⟩⟩, rp⟩
      | _ => cases z4
  · obtain ⟨z1, z⟩ := bool_and (List.all_eq_true.mp b10 _ (sel2_mem e))
    obtain ⟨z, z4⟩ := bool_and z
    obtain ⟨z2, z3⟩ := bool_and z
    obtain ⟨z5, z6⟩ := bool_and z4
    obtain ⟨z6, z7⟩ := bool_and z6
    cases q : (t.flds.getD c [])[i]? with
    | none => rw [q] at z3; cases z3
    | some attr =>
      rw [q] at z3
      exact ⟨t.mN m, attr, of_decide_eq_true z1, He.cls_ok z2, He.noat_ok z3, q, of_decide_eq_true z5, not_mem_of z6, hw c m i (sel2_mem e) (meth_of z7) attr q⟩
  · have z := allF_at b11 e
    rw [Nat.zero_add] at z
    rcases Bool.or_eq_true_iff.mp z with z | z
    · exact absurd (beq_iff_eq.mp z) ne
    obtain ⟨z1, z⟩ := bool_and z
    obtain ⟨z2, z⟩ := bool_and z
    obtain ⟨z3, z4⟩ := bool_and z
    refine ⟨PySem.W.mg_of X g (He.eqO_ok z1), ?_⟩
    have e2 := of_decide_eq_true z2
    have e4 := of_decide_eq_true z4
    have q := He.mkr_ok z3
    show Mk K (He.ga K (t.cN c)) (He.fAd K (t.paths.getD (t.iniL.getD c 0) ("", none)))
    rw [e4, e2]
    exact q
theorem kwn_of (X : K.In h) (g : h.Ns mainGlobals mg) (b : factsB t K = true) {f : Nat} {x kw : Str} (e : t.n.kwn[f]? = some (x, kw)) : mg x = some (.ref ((t.tab K cl).fka f)) ∧ PySem.W.keepIn K (.ref ((t.tab K cl).fka f)) = true := by
  unfold factsB at b
  simp only [Bool.and_eq_true] at b
  obtain ⟨_, _, _, _, _, _, _, _, _, _, _, b12, _⟩ := b
  have z := allF_at b12 e
  rw [Nat.zero_add] at z
  obtain ⟨z, z3⟩ := bool_and z
  obtain ⟨z1, z2⟩ := bool_and z
  refine ⟨?_, z2⟩
  have e3 := of_decide_eq_true z3
  have q := He.glo_ok X g z1
  show mg x = some (.ref (He.fAd K ((t.n.kwn.getD f ("", "")).1, none)))
  rw [e3]
  exact q
end
section
variable {t : Ttb} {K : PySem.W.Frag}
theorem nolst_of (b : factsB t K = true) {a : Addr} {o : Obj} (e : K.lookup a = some o) : o.cls ≠ .type "list" := fun q => by
  unfold factsB at b
  simp only [Bool.and_eq_true] at b
  obtain ⟨_, _, _, _, _, _, _, _, _, _, _, _, b13⟩ := b
  have m : ∀ (l : PySem.W.Frag), l.lookup a = some o → (a, o) ∈ l := fun l => by
    induction l with
    | nil => intro z; cases z
    | cons x xs ih =>
      intro z
      rw [List.lookup_cons] at z
      split at z
      · rename_i u
        have := beq_iff_eq.mp u
        cases z
        subst this
        exact List.mem_cons_self
      · exact List.mem_cons_of_mem _ (ih z)
  have z := List.all_eq_true.mp b13 _ (m K e)
  rw [q] at z
  simp at z
/-- the script, where the law begins -/
theorem start_ok {G : Cls_} (b : factsB t K = true) {H : Hp} {a : Addr} {ns : List Int} (ho : Only H) (hs : SqL K H a (ns.map V.int)) :
    RelW K G (fun _ => False) [a] H [.ro (ns.map D.int)] ∧ RepL K G (fun _ => False) [a] H [.hd 0] [.ref a] := by
  have z : ∃ o, H a = some (.frz o (.lst (ns.map V.int))) := by
    rcases hs with (q | ⟨o, q⟩) | ⟨o, its, n, e, q, _⟩
    · rcases ho a with z | ⟨o, xs, z⟩
      · rw [z] at q; cases q
      · rw [z] at q; cases q
    · exact ⟨o, q⟩
    · exact absurd q (nolst_of b e)
  obtain ⟨o, z⟩ := z
  have rl : ∀ (l : List Int), RepL K G (fun _ => False) [a] H (l.map D.int) (l.map V.int) := fun l => by
    induction l with
    | nil => exact RepL.nil'
    | cons i l ih => exact RepL.cons' rep_int ih
  refine ⟨⟨rfl, by simp, fun _ h => h.elim, fun x hx => ?_, fun n s x hs hx => ?_⟩, RepL.cons' ?_ RepL.nil'⟩
  · have e : x = a := by simpa using hx
    subst e; rw [z]; simp
  · cases n with
    | zero =>
      simp at hs hx
      subst hs hx
      exact .inr ⟨fun h => h, ⟨o, _, z, rl ns⟩⟩
    | succ n => simp at hs
  · simp only [Rep]
    exact ⟨a, by simp, rfl⟩
end

/-! ### the hook -/
def asW (g : Addr → Option Obj) (n : Nat) : List Addr := He.asD g n ++ [cStatics]
def obsW (t : Ttb) (fn : List He.DefD) (K : PySem.W.Frag) : He.AlD := (factsB t K && fn.all fun d => d.ok K, fn.map fun d => He.fnW K d.at_)
def SaysW (t : Ttb) (fn : List He.DefD) (K : PySem.W.Frag) : Prop := obsW t fn K = He.valD fn
def hookW (n : Nat) (t : Ttb) (fn : List He.DefD) : PySem.W.Hook where
  α := He.AlD
  obs := fun s => obsW t fn (He.frG s.heap.get? (asW s.heap.get? n))
  val := fun _ => He.valD fn
  says := fun _ h => ∃ K : PySem.W.Frag, K.In h ∧ SaysW t fn K
  of := fun _ _ e => ⟨_, He.frG_in, e⟩
  keeps := fun _ _ _ ⟨K, hK, c⟩ k => ⟨K, PySem.W.Frag.In.keeps hK k, c⟩
theorem hookW_eq {n : Nat} {t : Ttb} {fn : List He.DefD} {g : Addr → Option Obj} {s : Shared} (h : ∀ a, g a = s.heap.get? a) : obsW t fn (He.frG g (asW g n)) = (hookW n t fn).obs s := by
  have e : g = s.heap.get? := funext h
  rw [e] <;> rfl
section
variable {t : Ttb} {fn : List He.DefD} {K : PySem.W.Frag}
theorem SaysW.facts (c : SaysW t fn K) : factsB t K = true := (bool_and (show (factsB t K && fn.all fun d => d.ok K) = true from congrArg (fun z : He.AlD => z.1) c)).1
theorem SaysW.def_ (c : SaysW t fn K) (i : Nat) {d : He.DefD} (q : fn[i]? = some d) : ∃ fd, FunD K d.name d.qual d.params d.body d.scope (d.dvs K) (d.kws K) (He.fAd K d.at_) fd := by
  have c2 := (bool_and (show (factsB t K && fn.all fun d => d.ok K) = true from congrArg (fun z : He.AlD => z.1) c)).2
  have e2 : (fn.map fun d => He.fnW K d.at_)[i]? = (fn.map He.DefD.val)[i]? := by rw [show fn.map (fun d => He.fnW K d.at_) = fn.map He.DefD.val from congrArg (fun z : He.AlD => z.2) c]
  rw [List.getElem?_map, List.getElem?_map, q] at e2
  exact He.DefD.funD (Option.some.inj e2) (List.all_eq_true.mp c2 d (List.mem_of_getElem? q))
end
/-- the law's end -/
theorem walk_W {l : PySem.W.OpenLaw} {n k : Nat} {q : Program} {loose : List Str} {XP : (Str → Option Value) → Heap → Prop} {YP : World → Heap → Prop} {d : DefRec} {CXw : World → CXT} {x : Str}
    (hn : l.most = some n) (hn2 : n ≤ sizeLine) (hdf : d.params.defaults = []) (hr : Room k callerA)
    (go : ∀ (w : World) (mg : Str → Option Value) (fa : Addr) (h : Heap), YP w h → h.Ns mainGlobals mg → mg d.name = some (.ref fa) →
      ∃ (K : PySem.W.Frag) (fd : FuncData) (sp : Sp), K.In h ∧ (∀ (s : Shared) (u : Value), BindsTo s fd ⟨[u], []⟩ [(x, u)]) ∧
        (∀ (H : Hp) (a : Addr) (ns : List Int), ns.length ≤ n → Only H → SqL K H a (ns.map V.int) → sp [.ref a] H (fun v _ => v = .bl true) fun _ _ _ => False) ∧
        ∀ base : Heap, K.In base → base.Ns mainGlobals mg → FnOk l.prog w K mg base (CXw w) k fa fd [x] sp)
    (out : ∀ (w : World) (H : Hp) (s : Shared) (e : Value) (s' : Shared), CXw w [] H s (fun _ _ _ => False) e s' → False) :
    PySem.W.WalkO q loose XP YP l.row.toRowW d [] (fun f vs => PySem.call f vs) :=
  Att.attach_call hn hdf fun w s₀ s₁ mg mb fa o pm cd doc a vs ns G Y ho hd hcd hmg hobj hints hlen hg => by
    obtain ⟨K, fd, sp, KX, hb, hsp, hF⟩ := go w mg fa _ Y G.T.g hmg
    exact law_call KX G.T.g G.T.b G.T.builtins G.T.nolimit hg hobj hints (Nat.le_trans hlen hn2) hr hF hb (fun H hO hS => hsp H a ns hlen hO hS) fun H e s' => out w H s₁ e s'
end VI
-- VX
set_option Elab.async false
set_option linter.all false
set_option maxRecDepth 100000
set_option maxHeartbeats 2000000
namespace VI

/-! ### plain reasoning over the evaluation: wishes behind it -/
/-- a guard: what stands in a wish is left alone by a rewriting -/
inductive Pn {α : Sort u} (a : α) : Type
  | mk
structure Cn (α : Type) where
  f : α → Wd → Prop
  p : Pn f
structure Cp (α : Type) where
  f : α → Prop
  p : Pn f
structure Cp2 (α β : Type) where
  f : α → β → Prop
  p : Pn f
structure Cx where
  f : Nat → List D → Wd → Prop
  p : Pn f
instance {α : Type} : CoeFun (Cn α) fun _ => α → Wd → Prop := ⟨Cn.f⟩
instance {α : Type} : CoeFun (Cp α) fun _ => α → Prop := ⟨Cp.f⟩
instance {α β : Type} : CoeFun (Cp2 α β) fun _ => α → β → Prop := ⟨Cp2.f⟩
instance : CoeFun Cx fun _ => Nat → List D → Wd → Prop := ⟨Cx.f⟩
abbrev noX : Cx := ⟨fun _ _ _ => False, .mk⟩
def RR {α : Type} (r : Res α) (Q : Cn α) (X : Cx) : Prop := match r with
  | .ok a W => Q a W
  | .exc c xs W => X c xs W
  | .no => False
structure Kt where
  nx : Cn EnvD
  rt : Cn D
  bk : Cn EnvD
  ct : Cn EnvD
  xc : Cx
def RS (r : SR) (k : Kt) : Prop := match r with
  | .nx e W => k.nx e W
  | .ret d W => k.rt d W
  | .brk e W => k.bk e W
  | .ct e W => k.ct e W
  | .exc c xs W => k.xc c xs W
  | .no => False
def BO {α : Type} (o : Option α) (Q : Cp α) : Prop := match o with
  | some a => Q a
  | none => False
section
variable {α β : Type} {Q : Cn α} {X : Cx} {W : Wd} {k : Kt} {env : EnvD}
theorem RR_ok {a : α} : RR (.ok a W) Q X ↔ Q a W := Iff.rfl
theorem RR_exc {c : Nat} {xs : List D} : RR (.exc c xs W) Q X ↔ X c xs W := Iff.rfl
theorem RR_no : RR (.no : Res α) Q X ↔ False := Iff.rfl
theorem RR_bind {r : Res β} {f : β → Wd → Res α} : RR (r.bind f) Q X ↔ RR r ⟨fun a W => RR (f a W) Q X, .mk⟩ X := by cases r <;> rfl
theorem RR_iff {r : Res α} {P P' : α → Wd → Prop} (h : ∀ a W, P a W ↔ P' a W) : RR r ⟨P, .mk⟩ X ↔ RR r ⟨P', .mk⟩ X := by
  rw [show P = P' from funext fun a => funext fun W => propext (h a W)]
theorem BO_iff {o : Option α} {P P' : α → Prop} (h : ∀ a, P a ↔ P' a) : BO o ⟨P, .mk⟩ ↔ BO o ⟨P', .mk⟩ := by
  rw [show P = P' from funext fun a => propext (h a)]
theorem RR_opt {o : Option β} {f : β → Res α} : RR (match o with
    | some b => f b
    | none => .no) Q X ↔ BO o ⟨fun b => RR (f b) Q X, .mk⟩ := by cases o <;> rfl
theorem RS_opt {o : Option β} {f : β → SR} : RS (match o with
    | some b => f b
    | none => .no) k ↔ BO o ⟨fun b => RS (f b) k, .mk⟩ := by cases o <;> rfl
theorem RR_if {p : Bool} {r : Res α} : RR (if p then r else .no) Q X ↔ p = true ∧ RR r Q X := by cases p <;> simp [RR]
theorem RR_imp {p : Bool} {r1 r2 : Res α} : RR (if p then r1 else r2) Q X ↔ (p = true → RR r1 Q X) ∧ (p = false → RR r2 Q X) := by cases p <;> simp
theorem RS_nx : RS (.nx env W) k ↔ k.nx env W := Iff.rfl
theorem RS_ret {d : D} : RS (.ret d W) k ↔ k.rt d W := Iff.rfl
theorem RS_brk : RS (.brk env W) k ↔ k.bk env W := Iff.rfl
theorem RS_ct : RS (.ct env W) k ↔ k.ct env W := Iff.rfl
theorem RS_exc {c : Nat} {xs : List D} : RS (.exc c xs W) k ↔ k.xc c xs W := Iff.rfl
theorem RS_no : RS .no k ↔ False := Iff.rfl
theorem RS_on {r : Res α} {f : α → Wd → SR} : RS (r.on f) k ↔ RR r ⟨fun a W => RS (f a W) k, .mk⟩ k.xc := by cases r <;> rfl
theorem RS_then {r : SR} {f : EnvD → Wd → SR} : RS (r.then f) k ↔ RS r ⟨⟨fun e W => RS (f e W) k, .mk⟩, k.rt, k.bk, k.ct, k.xc⟩ := by cases r <;> rfl
theorem BO_some {a : α} {P : Cp α} : BO (some a) P ↔ P a := Iff.rfl
theorem BO_none {P : Cp α} : BO (none : Option α) P ↔ False := Iff.rfl
theorem RR_rBo {o : Option α} : RR (rBo o W) Q X ↔ BO o ⟨fun a => Q a W, .mk⟩ := by cases o <;> rfl
theorem RR_rB {o : Option Bool} {Q : Cn D} : RR (rB W o) Q X ↔ BO o ⟨fun b => Q (.bl b) W, .mk⟩ := by cases o <;> rfl
theorem RR_mono {r : Res α} {Q' : Cn α} {X' : Cx} (h : RR r Q X) (q : ∀ a W, Q a W → Q' a W) (x : ∀ c xs W, X c xs W → X' c xs W) : RR r Q' X' := by
  cases r with
  | ok a W => exact q _ _ h
  | exc c xs W => exact x _ _ _ h
  | no => exact h
theorem RS_mono {r : SR} {k' : Kt} (h : RS r k) (n : ∀ e W, k.nx e W → k'.nx e W) (t : ∀ d W, k.rt d W → k'.rt d W) (b : ∀ e W, k.bk e W → k'.bk e W) (c : ∀ e W, k.ct e W → k'.ct e W) (x : ∀ c xs W, k.xc c xs W → k'.xc c xs W) : RS r k' := by
  cases r with
  | nx e W => exact n _ _ h
  | ret d W => exact t _ _ h
  | brk e W => exact b _ _ h
  | ct e W => exact c _ _ h
  | exc c xs W => exact x _ _ _ h
  | no => exact h
theorem RR.get {r : Res α} (h : RR r Q noX) : ∃ a W, r = .ok a W ∧ Q a W := by
  cases r with
  | ok a W => exact ⟨a, W, rfl, h⟩
  | exc c xs W => exact h.elim
  | no => exact h.elim
end
section
variable (T : Tb)
def EEp (e : IE) (env : EnvD) (W : Wd) (Q : Cn D) (X : Cx) : Prop := RR ((ev T e).e env W) Q X
def ETp (e : IE) (env : EnvD) (W : Wd) (Q : Cn Bool) (X : Cx) : Prop := RR ((ev T e).t env W) Q X
def EAp (e : IE) (env : EnvD) (W : Wd) (Q : Cn (List D)) (X : Cx) : Prop := RR ((ev T e).a env W) Q X
def EIp (e : IE) (env : EnvD) (W : Wd) (Q : Cn (List D)) (X : Cx) : Prop := RR ((ev T e).i env W) Q X
def SSp (s : SE) (env : EnvD) (W : Wd) (k : Kt) : Prop := RS (evS T s env W) k
end
/-- a name's value -/
def EV (o : Option (Option D)) (Q : Cp D) : Prop := match o with
  | some (some d) => Q d
  | _ => False
theorem EV_some {d : D} {Q : Cp D} : EV (some (some d)) Q ↔ Q d := Iff.rfl
section
variable {T : Tb} {env : EnvD} {W : Wd} {Q : Cn D} {QB : Cn Bool} {QL : Cn (List D)} {X : Cx} {k : Kt} {a b c e r it elt cond : IE} {o p : PySem.CmpOp} {i m n : Nat}
/-- the truth of a value -/
def TR (W : Wd) (d : D) (Q : Cp Bool) : Prop := BO (tru W d) Q
theorem dflt_t {f : EvF D} : RR ((dflt f).t env W) QB X ↔ RR (f env W) ⟨fun d W1 => TR W1 d ⟨fun b => QB b W1, .mk⟩, .mk⟩ X := RR_bind.trans (RR_iff fun d W1 => RR_rBo)
/-- the items of what is walked -/
def IT (d : D) (Q : Cp (List D)) : Prop := match d with
  | .lst xs => Q xs
  | .tup xs => Q xs
  | .str z => Q (z.map fun c => .str [c])
  | _ => False
theorem itF_i {f : EvF D} : RR (itF f env W) QL X ↔ RR (f env W) ⟨fun d W1 => IT d ⟨fun xs => QL xs W1, .mk⟩, .mk⟩ X := RR_bind.trans (RR_iff fun d W1 => by cases d <;> exact Iff.rfl)
theorem TR_bl {b : Bool} {P : Cp Bool} : TR W (.bl b) P ↔ P b := Iff.rfl
theorem TR_int {i : Int} {P : Cp Bool} : TR W (.int i) P ↔ P (i != 0) := Iff.rfl
theorem TR_non {P : Cp Bool} : TR W .non P ↔ P false := Iff.rfl
theorem TR_lst {xs : List D} {P : Cp Bool} : TR W (.lst xs) P ↔ P (!xs.isEmpty) := Iff.rfl
theorem TR_tup {xs : List D} {P : Cp Bool} : TR W (.tup xs) P ↔ P (!xs.isEmpty) := Iff.rfl
theorem IT_lst {xs : List D} {P : Cp (List D)} : IT (.lst xs) P ↔ P xs := Iff.rfl
theorem IT_tup {xs : List D} {P : Cp (List D)} : IT (.tup xs) P ↔ P xs := Iff.rfl
theorem IT_str {z : List Nat} {P : Cp (List D)} : IT (.str z) P ↔ P (z.map fun c => .str [c]) := Iff.rfl

-- values
theorem EEp_var : EEp T (.var i) env W Q X ↔ EV env[i]? ⟨fun d => Q d W, .mk⟩ := by
  unfold EEp EV
  simp only [ev, dflt]
  cases h : env[i]? with
  | none => exact Iff.rfl
  | some z => cases z <;> exact Iff.rfl
theorem EEp_con {d : D} : EEp T (.con d) env W Q X ↔ Q d W := Iff.rfl
theorem EEp_glo : EEp T (.glo i) env W Q X ↔ Q (T.gl i) W := Iff.rfl
theorem EEp_bin {o : PySem.Operator} : EEp T (.bin o a b) env W Q X ↔ EEp T a env W ⟨fun x W1 => EEp T b env W1 ⟨fun y W2 => RR (pBin o W2 x y) Q X, .mk⟩ X, .mk⟩ X := by
  exact RR_bind.trans (RR_iff fun _ _ => RR_bind)
theorem EEp_adm : EEp T (.adm a b) env W Q X ↔ EEp T a env W ⟨fun x W1 => EEp T b env W1 ⟨fun y W2 => RR (pAdm W2 x y) Q X, .mk⟩ X, .mk⟩ X := by
  exact RR_bind.trans (RR_iff fun _ _ => RR_bind)
theorem EEp_neg : EEp T (.neg a) env W Q X ↔ EEp T a env W ⟨fun x W1 => RR (pNeg W1 x) Q X, .mk⟩ X := by
  exact RR_bind
theorem EEp_cmp : EEp T (.cmp o a b) env W Q X ↔ EEp T a env W ⟨fun x W1 => EEp T b env W1 ⟨fun y W2 => RR (pCmp o W2 x y) Q X, .mk⟩ X, .mk⟩ X := by
  exact RR_bind.trans (RR_iff fun _ _ => RR_bind)
def TB (d : D) (P : Cp Bool) : Prop := match d with
  | .bl b => P b
  | _ => False
theorem TB_bl {b : Bool} {P : Cp Bool} : TB (.bl b) P ↔ P b := Iff.rfl
theorem EEp_chn : EEp T (.chn o p a b c) env W Q X ↔ EEp T a env W ⟨fun x W1 => EEp T b env W1 ⟨fun y W2 => RR (pCmp o W2 x y) ⟨fun z W3 => TB z ⟨fun v => (v = true → EEp T c env W3 ⟨fun u W4 => RR (pCmp p W4 y u) Q X, .mk⟩ X) ∧ (v = false → Q (.bl false) W3), .mk⟩, .mk⟩ X, .mk⟩ X, .mk⟩ X := by
  refine RR_bind.trans (RR_iff fun x W1 => RR_bind.trans (RR_iff fun y W2 => RR_bind.trans (RR_iff fun d W3 => ?_)))
  cases d <;> try exact Iff.rfl
  rename_i v
  cases v
  · show Q (.bl false) W3 ↔ (false = true → _) ∧ (false = false → Q (.bl false) W3)
    simp
  · show RR (((ev T c).e env W3).bind _) Q X ↔ (true = true → EEp T c env W3 _ X) ∧ (true = false → Q (.bl false) W3)
    exact RR_bind.trans ⟨fun h => ⟨fun _ => h, fun e => nomatch e⟩, fun h => h.1 rfl⟩
theorem EEp_and : EEp T (.and a b) env W Q X ↔ EEp T a env W ⟨fun x W1 => TR W1 x ⟨fun v => (v = true → EEp T b env W1 Q X) ∧ (v = false → Q x W1), .mk⟩, .mk⟩ X := RR_bind.trans (RR_iff fun x W1 => RR_bind.trans (RR_rBo.trans (BO_iff fun v => RR_imp)))
theorem ETp_and : ETp T (.and a b) env W QB X ↔ ETp T a env W ⟨fun v W1 => (v = true → ETp T b env W1 QB X) ∧ (v = false → QB false W1), .mk⟩ X := RR_bind.trans (RR_iff fun x W1 => RR_imp)
theorem EEp_or : EEp T (.or a b) env W Q X ↔ EEp T a env W ⟨fun x W1 => TR W1 x ⟨fun v => (v = true → Q x W1) ∧ (v = false → EEp T b env W1 Q X), .mk⟩, .mk⟩ X := RR_bind.trans (RR_iff fun x W1 => RR_bind.trans (RR_rBo.trans (BO_iff fun v => RR_imp)))
theorem ETp_or : ETp T (.or a b) env W QB X ↔ ETp T a env W ⟨fun v W1 => (v = true → QB true W1) ∧ (v = false → ETp T b env W1 QB X), .mk⟩ X := RR_bind.trans (RR_iff fun x W1 => RR_imp)
theorem EEp_not : EEp T (.not a) env W Q X ↔ EEp T a env W ⟨fun x W1 => TR W1 x ⟨fun v => Q (.bl (!v)) W1, .mk⟩, .mk⟩ X := by
  exact RR_bind.trans (RR_iff fun _ _ => RR_bind.trans RR_rBo)
theorem ETp_not : ETp T (.not a) env W QB X ↔ ETp T a env W ⟨fun v W1 => QB (!v) W1, .mk⟩ X := by
  show RR (((ev T a).t env W).bind _) QB X ↔ _
  refine RR_bind.trans ?_
  rfl
theorem EEp_one : EEp T (.one a) env W Q X ↔ EEp T a env W Q X := Iff.rfl
theorem ETp_one : ETp T (.one a) env W QB X ↔ ETp T a env W QB X := Iff.rfl
theorem EEp_ife : EEp T (.ife c a b) env W Q X ↔ ETp T c env W ⟨fun v W1 => (v = true → EEp T a env W1 Q X) ∧ (v = false → EEp T b env W1 Q X), .mk⟩ X := RR_bind.trans (RR_iff fun x W1 => RR_imp)
theorem EEp_sub : EEp T (.sub a b) env W Q X ↔ EEp T a env W ⟨fun x W1 => EEp T b env W1 ⟨fun y W2 => RR (pSub W2 x y) Q X, .mk⟩ X, .mk⟩ X := by
  exact RR_bind.trans (RR_iff fun _ _ => RR_bind)
/-- a part of a slice -/
def EPp (T : Tb) (l : IE) (env : EnvD) (W : Wd) (P : Cn (Option Int)) (X : Cx) : Prop := RR (partE (isNonIE l) ((ev T l).e env W)) P X
theorem EPp_non {P : Cn (Option Int)} : EPp T .non env W P X ↔ P none W := Iff.rfl
def TI (d : D) (P : Cp Int) : Prop := match d with
  | .int i => P i
  | _ => False
theorem TI_int {i : Int} {P : Cp Int} : TI (.int i) P ↔ P i := Iff.rfl
theorem EPp_of {l : IE} {P : Cn (Option Int)} (h : isNonIE l = false) : EPp T l env W P X ↔ EEp T l env W ⟨fun d W1 => TI d ⟨fun i => P (some i) W1, .mk⟩, .mk⟩ X := by
  unfold EPp
  rw [h]
  exact RR_bind.trans (RR_iff fun d W1 => by cases d <;> exact Iff.rfl)
theorem EPp_con {d : D} {P : Cn (Option Int)} : EPp T (.con d) env W P X ↔ EEp T (.con d) env W ⟨fun d W1 => TI d ⟨fun i => P (some i) W1, .mk⟩, .mk⟩ X := EPp_of rfl
theorem EPp_var {P : Cn (Option Int)} : EPp T (.var i) env W P X ↔ EEp T (.var i) env W ⟨fun d W1 => TI d ⟨fun i => P (some i) W1, .mk⟩, .mk⟩ X := EPp_of rfl
theorem EPp_bin {o : PySem.Operator} {P : Cn (Option Int)} : EPp T (.bin o a b) env W P X ↔ EEp T (.bin o a b) env W ⟨fun d W1 => TI d ⟨fun i => P (some i) W1, .mk⟩, .mk⟩ X := EPp_of rfl
theorem EPp_blt {f : Blt} {P : Cn (Option Int)} : EPp T (.blt f a) env W P X ↔ EEp T (.blt f a) env W ⟨fun d W1 => TI d ⟨fun i => P (some i) W1, .mk⟩, .mk⟩ X := EPp_of rfl
theorem EPp_neg {P : Cn (Option Int)} : EPp T (.neg a) env W P X ↔ EEp T (.neg a) env W ⟨fun d W1 => TI d ⟨fun i => P (some i) W1, .mk⟩, .mk⟩ X := EPp_of rfl
theorem EPp_sub {P : Cn (Option Int)} : EPp T (.sub a b) env W P X ↔ EEp T (.sub a b) env W ⟨fun d W1 => TI d ⟨fun i => P (some i) W1, .mk⟩, .mk⟩ X := EPp_of rfl
theorem EPp_call {P : Cn (Option Int)} : EPp T (.call i a) env W P X ↔ EEp T (.call i a) env W ⟨fun d W1 => TI d ⟨fun i => P (some i) W1, .mk⟩, .mk⟩ X := EPp_of rfl
theorem EPp_att {P : Cn (Option Int)} : EPp T (.att m a) env W P X ↔ EEp T (.att m a) env W ⟨fun d W1 => TI d ⟨fun i => P (some i) W1, .mk⟩, .mk⟩ X := EPp_of rfl
theorem EPp_lni {P : Cn (Option Int)} : EPp T (.lni a) env W P X ↔ EEp T (.lni a) env W ⟨fun d W1 => TI d ⟨fun i => P (some i) W1, .mk⟩, .mk⟩ X := EPp_of rfl
theorem EPp_glo {P : Cn (Option Int)} : EPp T (.glo i) env W P X ↔ EEp T (.glo i) env W ⟨fun d W1 => TI d ⟨fun i => P (some i) W1, .mk⟩, .mk⟩ X := EPp_of rfl
theorem EEp_sli {l h : IE} : EEp T (.sli a l h) env W Q X ↔ EEp T a env W ⟨fun x W1 => EPp T l env W1 ⟨fun y W2 => EPp T h env W2 ⟨fun z W3 => RR (pSli W3 x y z) Q X, .mk⟩ X, .mk⟩ X, .mk⟩ X := by
  exact RR_bind.trans (RR_iff fun _ _ => RR_bind.trans (RR_iff fun _ _ => RR_bind))
theorem EEp_rev : EEp T (.rev a) env W Q X ↔ EEp T a env W ⟨fun x W1 => RR (pRev W1 x) Q X, .mk⟩ X := by
  exact RR_bind
theorem EEp_non : EEp T .non env W Q X ↔ Q .non W := Iff.rfl
theorem EEp_tup : EEp T (.tup a) env W Q X ↔ EAp T a env W ⟨fun xs W1 => fits xs.length = true ∧ Q (.tup xs) W1, .mk⟩ X := RR_bind.trans (RR_iff fun d W1 => RR_if)
theorem EEp_lst : EEp T (.lst a) env W Q X ↔ EAp T a env W ⟨fun xs W1 => fits xs.length = true ∧ Q (.lst xs) W1, .mk⟩ X := RR_bind.trans (RR_iff fun d W1 => RR_if)
theorem EEp_mls : EEp T (.mls a) env W Q X ↔ EAp T a env W ⟨fun xs W1 => fits xs.length = true ∧ Q (.hd W1.length) (W1 ++ [.lst xs]), .mk⟩ X := RR_bind.trans (RR_iff fun d W1 => RR_if)
theorem EAp_nil : EAp T .nil env W QL X ↔ QL [] W := Iff.rfl
theorem EAp_cons : EAp T (.cons a b) env W QL X ↔ EEp T a env W ⟨fun x W1 => EAp T b env W1 ⟨fun xs W2 => QL (x :: xs) W2, .mk⟩ X, .mk⟩ X := by
  exact RR_bind.trans (RR_iff fun _ _ => RR_bind)
/-- a sequence's items -/
def SQ (W : Wd) (d : D) (P : Cp (List D)) : Prop := BO (seq? W d) P
theorem SQ_lst {xs : List D} {P : Cp (List D)} : SQ W (.lst xs) P ↔ P xs := Iff.rfl
theorem SQ_tup {xs : List D} {P : Cp (List D)} : SQ W (.tup xs) P ↔ P xs := Iff.rfl
theorem EAp_star : EAp T (.star a b) env W QL X ↔ EEp T a env W ⟨fun x W1 => SQ W1 x ⟨fun ys => EAp T b env W1 ⟨fun xs W2 => QL (ys ++ xs) W2, .mk⟩ X, .mk⟩, .mk⟩ X := RR_bind.trans (RR_iff fun d W1 => by
  unfold SQ
  cases seq? W1 d with
  | none => exact Iff.rfl
  | some ys => exact RR_bind)
theorem EEp_blt {f : Blt} : EEp T (.blt f a) env W Q X ↔ EAp T a env W ⟨fun xs W1 => RR (pBlt f W1 xs) Q X, .mk⟩ X := by
  exact RR_bind
theorem EEp_isi {ts : List TyC} : EEp T (.isi a ts) env W Q X ↔ EEp T a env W ⟨fun x W1 => BO (anyTy T W1 x ts) ⟨fun v => Q (.bl v) W1, .mk⟩, .mk⟩ X := by
  exact RR_bind.trans (RR_iff fun _ _ => RR_rB)
def TS_ (d : D) (P : Cp (List Nat)) : Prop := match d with
  | .str z => P z
  | _ => False
theorem TS_str {z : List Nat} {P : Cp (List Nat)} : TS_ (.str z) P ↔ P z := Iff.rfl
theorem EEp_join : EEp T (.join a b) env W Q X ↔ EEp T a env W ⟨fun x W1 => TS_ x ⟨fun z => EEp T b env W1 ⟨fun y W2 => RR (pJoin W2 (.str z) y) Q X, .mk⟩ X, .mk⟩, .mk⟩ X := RR_bind.trans (RR_iff fun d W1 => by
  cases d <;> try exact Iff.rfl
  exact RR_bind)
theorem EEp_call {f : Nat} : EEp T (.call f a) env W Q X ↔ EAp T a env W ⟨fun xs W1 => RR (T.cl f xs W1) Q X, .mk⟩ X := by
  exact RR_bind
theorem EEp_calS {f : Nat} : EEp T (.calS f a) env W Q X ↔ EEp T a env W ⟨fun x W1 => SQ W1 x ⟨fun xs => RR (T.cl f xs W1) Q X, .mk⟩, .mk⟩ X := RR_bind.trans (RR_iff fun d W1 => by
  unfold SQ
  cases seq? W1 d <;> exact Iff.rfl)
theorem EEp_makS {f : Nat} {z : Bool} : EEp T (.makS f z a) env W Q X ↔ EEp T a env W ⟨fun x W1 => SQ W1 x ⟨fun xs => RR (mkI T f z xs W1) Q X, .mk⟩, .mk⟩ X := RR_bind.trans (RR_iff fun d W1 => by
  unfold SQ
  cases seq? W1 d <;> exact Iff.rfl)
theorem EEp_calK {f : Nat} {s : String} : EEp T (.calK f a s) env W Q X ↔ EEp T a env W ⟨fun x W1 => RR (T.ck f [x] W1) Q X, .mk⟩ X := by
  exact RR_bind
theorem EEp_make {f : Nat} {z : Bool} : EEp T (.make f z a) env W Q X ↔ EAp T a env W ⟨fun xs W1 => RR (mkI T f z xs W1) Q X, .mk⟩ X := by
  exact RR_bind
theorem RR_mkI {c : Nat} {z : Bool} {xs : List D} : RR (mkI T c z xs W) Q X ↔ RR (T.cl (T.ini c) (.hd W.length :: xs) (W ++ [.ins c []])) ⟨fun d W2 => d = .non ∧ RR (if z then frz (.hd W.length) W2 else .ok (.hd W.length) W2) Q X, .mk⟩ X := RR_bind.trans (RR_iff fun d W1 => by cases d <;> simp [RR])
/-- an instance's class and fields -/
def TN (W : Wd) (d : D) (P : Cp2 Nat (List D)) : Prop := match look W d with
  | .ins c xs => P c xs
  | _ => False
theorem TN_iff {d : D} {P P' : Nat → List D → Prop} (h : ∀ c xs, P c xs ↔ P' c xs) : TN W d ⟨P, .mk⟩ ↔ TN W d ⟨P', .mk⟩ := by
  rw [show P = P' from funext fun a => funext fun W => propext (h a W)]
theorem RR_ins {α : Type} {d : D} {Q : Cn α} {f : Nat → List D → Res α} : RR (match look W d with
    | .ins c xs => f c xs
    | _ => .no) Q X ↔ TN W d ⟨fun c xs => RR (f c xs) Q X, .mk⟩ := by
  unfold TN
  cases look W d <;> rfl
theorem TN_ins {c : Nat} {xs : List D} {P : Cp2 Nat (List D)} : TN W (.ins c xs) P ↔ P c xs := Iff.rfl
theorem TN_hd {j c : Nat} {xs : List D} {P : Cp2 Nat (List D)} (h : W[j]? = some (.ins c xs)) : TN W (.hd j) P ↔ P c xs := by
  unfold TN
  simp only [look, h]
theorem EEp_meth : EEp T (.meth m a b) env W Q X ↔ EEp T a env W ⟨fun x W1 => TN W1 x ⟨fun c _ => BO (T.mth c m) ⟨fun f => EAp T b env W1 ⟨fun xs W2 => RR (T.cl f (x :: xs) W2) Q X, .mk⟩ X, .mk⟩, .mk⟩, .mk⟩ X := RR_bind.trans (RR_iff fun x W1 => RR_ins.trans (TN_iff fun c xs => by
  cases T.mth c m with
  | none => exact Iff.rfl
  | some f => exact RR_bind))
theorem EEp_att : EEp T (.att m a) env W Q X ↔ EEp T a env W ⟨fun x W1 => TN W1 x ⟨fun c xs => BO (T.fld c m) ⟨fun i => BO xs[i]? ⟨fun d => Q d W1, .mk⟩, .mk⟩, .mk⟩, .mk⟩ X := RR_bind.trans (RR_iff fun x W1 => RR_ins.trans (TN_iff fun c xs => by
  cases T.fld c m with
  | none => exact Iff.rfl
  | some i =>
    show RR (match xs[i]? with | some d => _ | none => _) Q X ↔ BO xs[i]? _
    cases xs[i]? <;> exact Iff.rfl))
theorem EEp_lni : EEp T (.lni a) env W Q X ↔ EEp T a env W ⟨fun x W1 => TN W1 x ⟨fun c _ => BO (T.lnm c) ⟨fun f => RR (T.cl f [x] W1) ⟨fun d W2 => TI d ⟨fun i => (0 ≤ i ∧ i < 2 ^ 62) ∧ Q (.int i) W2, .mk⟩, .mk⟩ X, .mk⟩, .mk⟩, .mk⟩ X := RR_bind.trans (RR_iff fun x W1 => RR_ins.trans (TN_iff fun c xs => by
  cases T.lnm c with
  | none => exact Iff.rfl
  | some f =>
    refine RR_bind.trans (RR_iff fun d W2 => ?_)
    cases d <;> try exact Iff.rfl
    rename_i i
    refine (RR_if (p := decide (0 ≤ i) && decide (i < 2 ^ 62))).trans ?_
    show _ ∧ Q (.int i) W2 ↔ (0 ≤ i ∧ i < 2 ^ 62) ∧ Q (.int i) W2
    simp))
theorem EEp_cat : EEp T (.cat i m) env W Q X ↔ BO (T.cat i m) ⟨fun d => Q d W, .mk⟩ := by
  show RR (match T.cat i m with | some d => _ | none => _) Q X ↔ _
  cases T.cat i m <;> exact Iff.rfl
theorem EEp_mli : EEp T (.mli a) env W Q X ↔ EEp T a env W ⟨fun x W1 => SQ W1 x ⟨fun xs => Q (.hd W1.length) (W1 ++ [.lst xs]), .mk⟩, .mk⟩ X := RR_bind.trans (RR_iff fun d W1 => by
  unfold SQ
  cases seq? W1 d <;> exact Iff.rfl)
theorem EEp_comp {tg : IG} {own : List Nat} : EEp T (.comp elt tg it cond own) env W Q X ↔ EIp T it env W ⟨fun xs W1 => fits xs.length = true ∧ RR (compL tg (ev T cond).t (ev T elt).e (wipeE env own) xs W1) ⟨fun ys W2 => Q (.lst ys) W2, .mk⟩ X, .mk⟩ X := RR_bind.trans (RR_iff fun d W1 => RR_if.trans (and_congr Iff.rfl RR_bind))
theorem EEp_mco {tg : IG} {own : List Nat} : EEp T (.mco elt tg it cond own) env W Q X ↔ EIp T it env W ⟨fun xs W1 => fits xs.length = true ∧ RR (compL tg (ev T cond).t (ev T elt).e (wipeE env own) xs W1) ⟨fun ys W2 => Q (.hd W2.length) (W2 ++ [.lst ys]), .mk⟩ X, .mk⟩ X := RR_bind.trans (RR_iff fun d W1 => RR_if.trans (and_congr Iff.rfl RR_bind))
theorem EEp_fsp : EEp T (.fsp a) env W Q X ↔ EAp T a env W ⟨fun xs W1 => BO (strs? xs) ⟨fun ys => Q (.str ys.flatten) W1, .mk⟩, .mk⟩ X := RR_bind.trans (RR_iff fun d W1 => by cases strs? d <;> exact Iff.rfl)
theorem EAp_fpn : EAp T .fpn env W QL X ↔ QL [] W := Iff.rfl
theorem EAp_fpc : EAp T (.fpc a b) env W QL X ↔ EEp T a env W ⟨fun x W1 => TS_ x ⟨fun z => Nat.ble z.length 65536 = true ∧ EAp T b env W1 ⟨fun xs W2 => QL (.str z :: xs) W2, .mk⟩ X, .mk⟩, .mk⟩ X := RR_bind.trans (RR_iff fun d W1 => by
  cases d <;> try exact Iff.rfl
  rename_i z
  exact (RR_if (p := Nat.ble z.length 65536)).trans (and_congr Iff.rfl RR_bind))
theorem EEp_fmt {f : Fm} : EEp T (.fmt f a) env W Q X ↔ EEp T a env W ⟨fun x W1 => RR (fmtD W1 f x) Q X, .mk⟩ X := by
  exact RR_bind
theorem EEp_frz : EEp T (.frz a) env W Q X ↔ EEp T a env W ⟨fun x W1 => RR (frz x W1) Q X, .mk⟩ X := by
  exact RR_bind
/-- a list's handle -/
def TH (W : Wd) (d : D) (P : Cp2 Nat (List D)) : Prop := match d with
  | .hd n => match W[n]? with
    | some (.lst xs) => P n xs
    | _ => False
  | _ => False
theorem TH_hd {n : Nat} {xs : List D} {P : Cp2 Nat (List D)} (h : W[n]? = some (.lst xs)) : TH W (.hd n) P ↔ P n xs := by
  show (match W[n]? with | some (.lst xs) => _ | _ => _) ↔ _
  rw [h]
theorem EEp_app : EEp T (.app a b) env W Q X ↔ EEp T a env W ⟨fun x W1 => TH W1 x ⟨fun _ _ => EEp T b env W1 ⟨fun y W2 => TH W2 x ⟨fun n xs => fits (xs.length + 1) = true ∧ Q .non (W2.set n (.lst (xs ++ [y]))), .mk⟩, .mk⟩ X, .mk⟩, .mk⟩ X := RR_bind.trans (RR_iff fun d W1 => by
  cases d <;> try exact Iff.rfl
  rename_i n
  show RR (match W1[n]? with | some (.lst _) => _ | _ => _) Q X ↔ (match W1[n]? with | some (.lst xs) => _ | _ => _)
  cases h : W1[n]? with
  | none => exact Iff.rfl
  | some s =>
    cases s <;> try exact Iff.rfl
    refine RR_bind.trans (RR_iff fun y W2 => ?_)
    show RR (match W2[n]? with | some (.lst xs) => _ | _ => _) Q X ↔ (match W2[n]? with | some (.lst xs) => _ | _ => _)
    cases h2 : W2[n]? with
    | none => exact Iff.rfl
    | some s =>
      cases s <;> try exact Iff.rfl
      exact RR_if)
-- what is walked
theorem EIp_rn1 : EIp T (.rn1 a) env W QL X ↔ EEp T a env W ⟨fun d W1 => TI d ⟨fun j => small62 j = true ∧ QL (rangeL 0 1 0 j.toNat) W1, .mk⟩, .mk⟩ X := RR_bind.trans (RR_iff fun d W1 => by
  cases d <;> try exact Iff.rfl
  exact RR_if)
theorem EIp_rn2 : EIp T (.rn2 a b) env W QL X ↔ EEp T a env W ⟨fun d W1 => EEp T b env W1 ⟨fun d2 W2 => TI d ⟨fun i => TI d2 ⟨fun j => (small62 i && small62 j) = true ∧ QL (rangeL i 1 0 (j - i).toNat) W2, .mk⟩, .mk⟩, .mk⟩ X, .mk⟩ X := RR_bind.trans (RR_iff fun d W1 => RR_bind.trans (RR_iff fun d2 W2 => by
  cases d <;> cases d2 <;> try exact Iff.rfl
  exact RR_if))
def TQ (d : D) (P : Cp (List D)) : Prop := match d with
  | .lst xs => P xs
  | .tup xs => P xs
  | _ => False
theorem TQ_lst {xs : List D} {P : Cp (List D)} : TQ (.lst xs) P ↔ P xs := Iff.rfl
theorem TQ_tup {xs : List D} {P : Cp (List D)} : TQ (.tup xs) P ↔ P xs := Iff.rfl
theorem EIp_enm : EIp T (.enm a) env W QL X ↔ EEp T a env W ⟨fun d W1 => TQ d ⟨fun xs => QL (enumL 0 xs) W1, .mk⟩, .mk⟩ X := RR_bind.trans (RR_iff fun d W1 => by cases d <;> exact Iff.rfl)
def TZ (d e : D) (P : Cp2 (List D) (List D)) : Prop := match d, e with
  | .lst xs, .lst ys => P xs ys
  | .tup xs, .tup ys => P xs ys
  | _, _ => False
theorem TZ_lst {xs ys : List D} {P : Cp2 (List D) (List D)} : TZ (.lst xs) (.lst ys) P ↔ P xs ys := Iff.rfl
theorem TZ_tup {xs ys : List D} {P : Cp2 (List D) (List D)} : TZ (.tup xs) (.tup ys) P ↔ P xs ys := Iff.rfl
theorem EIp_zip : EIp T (.zip a b) env W QL X ↔ EEp T a env W ⟨fun d W1 => EEp T b env W1 ⟨fun e W2 => TZ d e ⟨fun xs ys => QL (List.zipWith (fun p q => .tup [p, q]) xs ys) W2, .mk⟩, .mk⟩ X, .mk⟩ X := RR_bind.trans (RR_iff fun d W1 => RR_bind.trans (RR_iff fun e W2 => by
  cases d <;> cases e <;> exact Iff.rfl))
-- tests and walks of a value
theorem RR_fep : RR ((ev T e).e env W) Q X ↔ EEp T e env W Q X := Iff.rfl
theorem RR_ftp : RR ((ev T e).t env W) QB X ↔ ETp T e env W QB X := Iff.rfl
theorem RR_fap : RR ((ev T e).a env W) QL X ↔ EAp T e env W QL X := Iff.rfl
theorem RR_fip : RR ((ev T e).i env W) QL X ↔ EIp T e env W QL X := Iff.rfl
theorem RS_fsp {s : SE} : RS (evS T s env W) k ↔ SSp T s env W k := Iff.rfl
theorem ETp_dflt (h : (ev T e).t = truF (ev T e).e) : ETp T e env W QB X ↔ EEp T e env W ⟨fun d W1 => TR W1 d ⟨fun v => QB v W1, .mk⟩, .mk⟩ X := by
  unfold ETp
  rw [h]
  exact RR_bind.trans (RR_iff fun d W1 => RR_rBo)
theorem EIp_dflt (h : (ev T e).i = itF (ev T e).e) : EIp T e env W QL X ↔ EEp T e env W ⟨fun d W1 => IT d ⟨fun xs => QL xs W1, .mk⟩, .mk⟩ X := by
  unfold EIp
  rw [h]
  exact itF_i
theorem ETp_var : ETp T (.var i) env W QB X ↔ EEp T (.var i) env W ⟨fun d W1 => TR W1 d ⟨fun v => QB v W1, .mk⟩, .mk⟩ X := ETp_dflt rfl
theorem ETp_con {d : D} : ETp T (.con d) env W QB X ↔ EEp T (.con d) env W ⟨fun d W1 => TR W1 d ⟨fun v => QB v W1, .mk⟩, .mk⟩ X := ETp_dflt rfl
theorem ETp_cmp : ETp T (.cmp o a b) env W QB X ↔ EEp T (.cmp o a b) env W ⟨fun d W1 => TR W1 d ⟨fun v => QB v W1, .mk⟩, .mk⟩ X := ETp_dflt rfl
theorem ETp_chn : ETp T (.chn o p a b c) env W QB X ↔ EEp T (.chn o p a b c) env W ⟨fun d W1 => TR W1 d ⟨fun v => QB v W1, .mk⟩, .mk⟩ X := ETp_dflt rfl
theorem ETp_call {f : Nat} : ETp T (.call f a) env W QB X ↔ EEp T (.call f a) env W ⟨fun d W1 => TR W1 d ⟨fun v => QB v W1, .mk⟩, .mk⟩ X := ETp_dflt rfl
theorem ETp_meth : ETp T (.meth m a b) env W QB X ↔ EEp T (.meth m a b) env W ⟨fun d W1 => TR W1 d ⟨fun v => QB v W1, .mk⟩, .mk⟩ X := ETp_dflt rfl
theorem ETp_att : ETp T (.att m a) env W QB X ↔ EEp T (.att m a) env W ⟨fun d W1 => TR W1 d ⟨fun v => QB v W1, .mk⟩, .mk⟩ X := ETp_dflt rfl
theorem ETp_blt {f : Blt} : ETp T (.blt f a) env W QB X ↔ EEp T (.blt f a) env W ⟨fun d W1 => TR W1 d ⟨fun v => QB v W1, .mk⟩, .mk⟩ X := ETp_dflt rfl
theorem ETp_isi {ts : List TyC} : ETp T (.isi a ts) env W QB X ↔ EEp T (.isi a ts) env W ⟨fun d W1 => TR W1 d ⟨fun v => QB v W1, .mk⟩, .mk⟩ X := ETp_dflt rfl
theorem EIp_ife : EIp T (.ife c a b) env W QL X ↔ EEp T (.ife c a b) env W ⟨fun d W1 => IT d ⟨fun xs => QL xs W1, .mk⟩, .mk⟩ X := EIp_dflt rfl
theorem EIp_var : EIp T (.var i) env W QL X ↔ EEp T (.var i) env W ⟨fun d W1 => IT d ⟨fun xs => QL xs W1, .mk⟩, .mk⟩ X := EIp_dflt rfl
theorem EIp_glo : EIp T (.glo i) env W QL X ↔ EEp T (.glo i) env W ⟨fun d W1 => IT d ⟨fun xs => QL xs W1, .mk⟩, .mk⟩ X := EIp_dflt rfl
theorem EIp_con {d : D} : EIp T (.con d) env W QL X ↔ EEp T (.con d) env W ⟨fun d W1 => IT d ⟨fun xs => QL xs W1, .mk⟩, .mk⟩ X := EIp_dflt rfl
theorem EIp_sub : EIp T (.sub a b) env W QL X ↔ EEp T (.sub a b) env W ⟨fun d W1 => IT d ⟨fun xs => QL xs W1, .mk⟩, .mk⟩ X := EIp_dflt rfl
theorem EIp_sli {l h : IE} : EIp T (.sli a l h) env W QL X ↔ EEp T (.sli a l h) env W ⟨fun d W1 => IT d ⟨fun xs => QL xs W1, .mk⟩, .mk⟩ X := EIp_dflt rfl
theorem EIp_rev : EIp T (.rev a) env W QL X ↔ EEp T (.rev a) env W ⟨fun d W1 => IT d ⟨fun xs => QL xs W1, .mk⟩, .mk⟩ X := EIp_dflt rfl
theorem EIp_lst : EIp T (.lst a) env W QL X ↔ EEp T (.lst a) env W ⟨fun d W1 => IT d ⟨fun xs => QL xs W1, .mk⟩, .mk⟩ X := EIp_dflt rfl
theorem EIp_tup : EIp T (.tup a) env W QL X ↔ EEp T (.tup a) env W ⟨fun d W1 => IT d ⟨fun xs => QL xs W1, .mk⟩, .mk⟩ X := EIp_dflt rfl
theorem EIp_att : EIp T (.att m a) env W QL X ↔ EEp T (.att m a) env W ⟨fun d W1 => IT d ⟨fun xs => QL xs W1, .mk⟩, .mk⟩ X := EIp_dflt rfl
theorem EIp_call {f : Nat} : EIp T (.call f a) env W QL X ↔ EEp T (.call f a) env W ⟨fun d W1 => IT d ⟨fun xs => QL xs W1, .mk⟩, .mk⟩ X := EIp_dflt rfl
theorem EIp_meth : EIp T (.meth m a b) env W QL X ↔ EEp T (.meth m a b) env W ⟨fun d W1 => IT d ⟨fun xs => QL xs W1, .mk⟩, .mk⟩ X := EIp_dflt rfl
theorem EIp_comp {tg : IG} {own : List Nat} : EIp T (.comp elt tg it cond own) env W QL X ↔ EEp T (.comp elt tg it cond own) env W ⟨fun d W1 => IT d ⟨fun xs => QL xs W1, .mk⟩, .mk⟩ X := EIp_dflt rfl
theorem EIp_bin {o : PySem.Operator} : EIp T (.bin o a b) env W QL X ↔ EEp T (.bin o a b) env W ⟨fun d W1 => IT d ⟨fun xs => QL xs W1, .mk⟩, .mk⟩ X := EIp_dflt rfl

-- statements
variable {s s1 s2 : SE} {g : IG}
theorem SSp_skip : SSp T .skip env W k ↔ k.nx env W := Iff.rfl
theorem SSp_nil : SSp T .nil env W k ↔ k.nx env W := Iff.rfl
theorem SSp_seq : SSp T (.seq s1 s2) env W k ↔ SSp T s1 env W ⟨⟨fun e W => SSp T s2 e W k, .mk⟩, k.rt, k.bk, k.ct, k.xc⟩ := RS_then
theorem SSp_ex : SSp T (.ex e) env W k ↔ EEp T e env W ⟨fun _ W1 => k.nx env W1, .mk⟩ k.xc := RS_on
theorem SSp_ret : SSp T (.ret e) env W k ↔ EEp T e env W ⟨fun d W1 => k.rt d W1, .mk⟩ k.xc := RS_on
theorem SSp_retN : SSp T .retN env W k ↔ k.rt .non W := Iff.rfl
theorem SSp_set : SSp T (.set g e) env W k ↔ EEp T e env W ⟨fun d W1 => BO (bindG W1 g d env) ⟨fun env1 => k.nx env1 W1, .mk⟩, .mk⟩ k.xc := RS_on.trans (RR_iff fun d W1 => by cases bindG W1 g d env <;> exact Iff.rfl)
theorem SSp_par {is : List Nat} : SSp T (.par is e) env W k ↔ EAp T e env W ⟨fun ds W1 => BO (setP is ds env) ⟨fun env1 => k.nx env1 W1, .mk⟩, .mk⟩ k.xc := RS_on.trans (RR_iff fun d W1 => by cases setP is d env <;> exact Iff.rfl)
theorem SSp_sct {tg : IG} {own : List Nat} {fz : Bool} : SSp T (.sct i fz elt tg it cond own) env W k ↔ EEp T (if fz then .comp elt tg it cond own else .mco elt tg it cond own) env W ⟨fun d W1 => i < env.length ∧ k.nx (env.set i (some d)) W1, .mk⟩ k.xc := RS_on.trans (RR_iff fun d W1 => by
  by_cases h : i < env.length
  · simp only [h, if_true, true_and]
    exact Iff.rfl
  · simp only [h, if_false, false_and]
    exact Iff.rfl)
theorem SSp_ite : SSp T (.ite c s1 s2) env W k ↔ ETp T c env W ⟨fun v W1 => (v = true → SSp T s1 env W1 k) ∧ (v = false → SSp T s2 env W1 k), .mk⟩ k.xc := RS_on.trans (RR_iff fun v W1 => by cases v <;> simp [SSp])
theorem SSp_forr : SSp T (.forr g it s) env W k ↔ EIp T it env W ⟨fun xs W1 => RS (forL g (evS T s) xs env W1) k, .mk⟩ k.xc := RS_on
def TF (d : D) (P : Cp2 Nat (List D)) : Prop := match d with
  | .ins c xs => P c xs
  | _ => False
theorem TF_ins {c : Nat} {xs : List D} {P : Cp2 Nat (List D)} : TF (.ins c xs) P ↔ P c xs := Iff.rfl
def TL (d : D) (P : Cp (List D)) : Prop := match d with
  | .lst xs => P xs
  | _ => False
theorem TL_lst {xs : List D} {P : Cp (List D)} : TL (.lst xs) P ↔ P xs := Iff.rfl
theorem SSp_forw : SSp T (.forw g m e s) env W k ↔ EEp T e env W ⟨fun d W1 => TF d ⟨fun c fs => BO (T.wlk c m) ⟨fun i => BO fs[i]? ⟨fun d => TL d ⟨fun xs => RS (forL g (evS T s) (enumL 0 xs) env W1) k, .mk⟩, .mk⟩, .mk⟩, .mk⟩, .mk⟩ k.xc := RS_on.trans (RR_iff fun d W1 => by
  cases d <;> try exact Iff.rfl
  rename_i c fs
  show RS (match T.wlk c m with | some i => _ | none => _) k ↔ BO (T.wlk c m) _
  cases T.wlk c m with
  | none => exact Iff.rfl
  | some i =>
    show RS (match fs[i]? with | some (.lst xs) => _ | _ => _) k ↔ BO fs[i]? _
    cases fs[i]? with
    | none => exact Iff.rfl
    | some d => cases d <;> exact Iff.rfl)
theorem SSp_whl : SSp T (.whl c s) env W k ↔ RS (whlL (ev T c).t (evS T s) 1000000 env W) k := Iff.rfl
theorem SSp_brk : SSp T .brk env W k ↔ k.bk env W := Iff.rfl
theorem SSp_cnt : SSp T .cnt env W k ↔ k.ct env W := Iff.rfl
theorem SSp_gho : SSp T (.gho i s) env W k ↔ EV env[i]? ⟨fun d => RR (frz d W) ⟨fun d1 W1 => SSp T s (env.set i (some d1)) W1 k, .mk⟩ k.xc, .mk⟩ := by
  show RS (match env[i]? with | some (some d) => _ | _ => _) k ↔ EV env[i]? _
  cases h : env[i]? with
  | none => exact Iff.rfl
  | some z =>
    cases z with
    | none => exact Iff.rfl
    | some d => exact RS_on
theorem SSp_aug {o : PySem.Operator} : SSp T (.aug o i e) env W k ↔ EV env[i]? ⟨fun x => EEp T e env W ⟨fun y W1 => RR (pAug o W1 x y) ⟨fun z W2 => k.nx (env.set i (some z)) W2, .mk⟩ k.xc, .mk⟩ k.xc, .mk⟩ := by
  show RS (match env[i]? with | some (some d) => _ | _ => _) k ↔ EV env[i]? _
  cases h : env[i]? with
  | none => exact Iff.rfl
  | some z =>
    cases z with
    | none => exact Iff.rfl
    | some d => exact RS_on.trans (RR_iff fun d W1 => RS_on)
theorem SSp_sti : SSp T (.sti a b e) env W k ↔ EEp T e env W ⟨fun y W1 => EEp T a env W1 ⟨fun x W2 => EEp T b env W2 ⟨fun j W3 => BO (pSti W3 x j y) ⟨fun W4 => k.nx env W4, .mk⟩, .mk⟩ k.xc, .mk⟩ k.xc, .mk⟩ k.xc := RS_on.trans (RR_iff fun y W1 => RS_on.trans (RR_iff fun x W2 => RS_on.trans (RR_iff fun j W3 => by cases pSti W3 x j y <;> exact Iff.rfl)))
theorem SSp_sta : SSp T (.sta m a e) env W k ↔ EEp T e env W ⟨fun y W1 => EEp T a env W1 ⟨fun x W2 => BO (pSta T m W2 x y) ⟨fun W4 => k.nx env W4, .mk⟩, .mk⟩ k.xc, .mk⟩ k.xc := RS_on.trans (RR_iff fun y W1 => RS_on.trans (RR_iff fun x W2 => by cases pSta T m W2 x y <;> exact Iff.rfl))
end


/-! ### the same, sealed -/
section
variable (T : Tb)
@[irreducible] def EE (e : IE) (env : EnvD) (W : Wd) (Q : Cn D) (X : Cx) : Prop := EEp T e env W Q X
@[irreducible] def ET (e : IE) (env : EnvD) (W : Wd) (Q : Cn Bool) (X : Cx) : Prop := ETp T e env W Q X
@[irreducible] def EA (e : IE) (env : EnvD) (W : Wd) (Q : Cn (List D)) (X : Cx) : Prop := EAp T e env W Q X
@[irreducible] def EI (e : IE) (env : EnvD) (W : Wd) (Q : Cn (List D)) (X : Cx) : Prop := EIp T e env W Q X
@[irreducible] def EP (l : IE) (env : EnvD) (W : Wd) (P : Cn (Option Int)) (X : Cx) : Prop := EPp T l env W P X
@[irreducible] def SS (s : SE) (env : EnvD) (W : Wd) (k : Kt) : Prop := SSp T s env W k
end
theorem sEE : @EE = @EEp := by funext T e env W Q X; unfold EE; rfl
theorem sET : @ET = @ETp := by funext T e env W Q X; unfold ET; rfl
theorem sEA : @EA = @EAp := by funext T e env W Q X; unfold EA; rfl
theorem sEI : @EI = @EIp := by funext T e env W Q X; unfold EI; rfl
theorem sEP : @EP = @EPp := by funext T e env W Q X; unfold EP; rfl
theorem sSS : @SS = @SSp := by funext T e env W k; unfold SS; rfl
section
variable {T : Tb} {env : EnvD} {W : Wd} {Q : Cn D} {QB : Cn Bool} {QL : Cn (List D)} {X : Cx} {k : Kt} {a b c e r it elt cond : IE} {o p : PySem.CmpOp} {i m n : Nat} {s s1 s2 : SE} {g : IG}
theorem EE_var : EE T (.var i) env W Q X ↔ EV env[i]? ⟨fun d => Q d W, .mk⟩ := by
  rw [sEE]
  exact EEp_var
theorem EE_con {d : D} : EE T (.con d) env W Q X ↔ Q d W := by
  rw [sEE]
  exact EEp_con
theorem EE_glo : EE T (.glo i) env W Q X ↔ Q (T.gl i) W := by
  rw [sEE]
  exact EEp_glo
theorem EE_bin {o : PySem.Operator} : EE T (.bin o a b) env W Q X ↔ EE T a env W ⟨fun x W1 => EE T b env W1 ⟨fun y W2 => RR (pBin o W2 x y) Q X, .mk⟩ X, .mk⟩ X := by
  rw [sEE]
  exact EEp_bin
theorem EE_adm : EE T (.adm a b) env W Q X ↔ EE T a env W ⟨fun x W1 => EE T b env W1 ⟨fun y W2 => RR (pAdm W2 x y) Q X, .mk⟩ X, .mk⟩ X := by
  rw [sEE]
  exact EEp_adm
theorem EE_neg : EE T (.neg a) env W Q X ↔ EE T a env W ⟨fun x W1 => RR (pNeg W1 x) Q X, .mk⟩ X := by
  rw [sEE]
  exact EEp_neg
theorem EE_cmp : EE T (.cmp o a b) env W Q X ↔ EE T a env W ⟨fun x W1 => EE T b env W1 ⟨fun y W2 => RR (pCmp o W2 x y) Q X, .mk⟩ X, .mk⟩ X := by
  rw [sEE]
  exact EEp_cmp
theorem EE_chn : EE T (.chn o p a b c) env W Q X ↔ EE T a env W ⟨fun x W1 => EE T b env W1 ⟨fun y W2 => RR (pCmp o W2 x y) ⟨fun z W3 => TB z ⟨fun v => (v = true → EE T c env W3 ⟨fun u W4 => RR (pCmp p W4 y u) Q X, .mk⟩ X) ∧ (v = false → Q (.bl false) W3), .mk⟩, .mk⟩ X, .mk⟩ X, .mk⟩ X := by
  rw [sEE]
  exact EEp_chn
theorem EE_and : EE T (.and a b) env W Q X ↔ EE T a env W ⟨fun x W1 => TR W1 x ⟨fun v => (v = true → EE T b env W1 Q X) ∧ (v = false → Q x W1), .mk⟩, .mk⟩ X := by
  rw [sEE]
  exact EEp_and
theorem ET_and : ET T (.and a b) env W QB X ↔ ET T a env W ⟨fun v W1 => (v = true → ET T b env W1 QB X) ∧ (v = false → QB false W1), .mk⟩ X := by
  rw [sET]
  exact ETp_and
theorem EE_or : EE T (.or a b) env W Q X ↔ EE T a env W ⟨fun x W1 => TR W1 x ⟨fun v => (v = true → Q x W1) ∧ (v = false → EE T b env W1 Q X), .mk⟩, .mk⟩ X := by
  rw [sEE]
  exact EEp_or
theorem ET_or : ET T (.or a b) env W QB X ↔ ET T a env W ⟨fun v W1 => (v = true → QB true W1) ∧ (v = false → ET T b env W1 QB X), .mk⟩ X := by
  rw [sET]
  exact ETp_or
theorem EE_not : EE T (.not a) env W Q X ↔ EE T a env W ⟨fun x W1 => TR W1 x ⟨fun v => Q (.bl (!v)) W1, .mk⟩, .mk⟩ X := by
  rw [sEE]
  exact EEp_not
theorem ET_not : ET T (.not a) env W QB X ↔ ET T a env W ⟨fun v W1 => QB (!v) W1, .mk⟩ X := by
  rw [sET]
  exact ETp_not
theorem EE_one : EE T (.one a) env W Q X ↔ EE T a env W Q X := by
  rw [sEE]
  exact EEp_one
theorem ET_one : ET T (.one a) env W QB X ↔ ET T a env W QB X := by
  rw [sET]
  exact ETp_one
theorem EE_ife : EE T (.ife c a b) env W Q X ↔ ET T c env W ⟨fun v W1 => (v = true → EE T a env W1 Q X) ∧ (v = false → EE T b env W1 Q X), .mk⟩ X := by
  rw [sEE]; rw [sET]
  exact EEp_ife
theorem EE_sub : EE T (.sub a b) env W Q X ↔ EE T a env W ⟨fun x W1 => EE T b env W1 ⟨fun y W2 => RR (pSub W2 x y) Q X, .mk⟩ X, .mk⟩ X := by
  rw [sEE]
  exact EEp_sub
theorem EP_non {P : Cn (Option Int)} : EP T .non env W P X ↔ P none W := by
  rw [sEP]
  exact EPp_non
theorem EP_con {d : D} {P : Cn (Option Int)} : EP T (.con d) env W P X ↔ EE T (.con d) env W ⟨fun d W1 => TI d ⟨fun i => P (some i) W1, .mk⟩, .mk⟩ X := by
  rw [sEE]; rw [sEP]
  exact EPp_con
theorem EP_var {P : Cn (Option Int)} : EP T (.var i) env W P X ↔ EE T (.var i) env W ⟨fun d W1 => TI d ⟨fun i => P (some i) W1, .mk⟩, .mk⟩ X := by
  rw [sEE]; rw [sEP]
  exact EPp_var
theorem EP_bin {o : PySem.Operator} {P : Cn (Option Int)} : EP T (.bin o a b) env W P X ↔ EE T (.bin o a b) env W ⟨fun d W1 => TI d ⟨fun i => P (some i) W1, .mk⟩, .mk⟩ X := by
  rw [sEE]; rw [sEP]
  exact EPp_bin
theorem EP_blt {f : Blt} {P : Cn (Option Int)} : EP T (.blt f a) env W P X ↔ EE T (.blt f a) env W ⟨fun d W1 => TI d ⟨fun i => P (some i) W1, .mk⟩, .mk⟩ X := by
  rw [sEE]; rw [sEP]
  exact EPp_blt
theorem EP_neg {P : Cn (Option Int)} : EP T (.neg a) env W P X ↔ EE T (.neg a) env W ⟨fun d W1 => TI d ⟨fun i => P (some i) W1, .mk⟩, .mk⟩ X := by
  rw [sEE]; rw [sEP]
  exact EPp_neg
theorem EP_sub {P : Cn (Option Int)} : EP T (.sub a b) env W P X ↔ EE T (.sub a b) env W ⟨fun d W1 => TI d ⟨fun i => P (some i) W1, .mk⟩, .mk⟩ X := by
  rw [sEE]; rw [sEP]
  exact EPp_sub
theorem EP_call {P : Cn (Option Int)} : EP T (.call i a) env W P X ↔ EE T (.call i a) env W ⟨fun d W1 => TI d ⟨fun i => P (some i) W1, .mk⟩, .mk⟩ X := by
  rw [sEE]; rw [sEP]
  exact EPp_call
theorem EP_att {P : Cn (Option Int)} : EP T (.att m a) env W P X ↔ EE T (.att m a) env W ⟨fun d W1 => TI d ⟨fun i => P (some i) W1, .mk⟩, .mk⟩ X := by
  rw [sEE]; rw [sEP]
  exact EPp_att
theorem EP_lni {P : Cn (Option Int)} : EP T (.lni a) env W P X ↔ EE T (.lni a) env W ⟨fun d W1 => TI d ⟨fun i => P (some i) W1, .mk⟩, .mk⟩ X := by
  rw [sEE]; rw [sEP]
  exact EPp_lni
theorem EP_glo {P : Cn (Option Int)} : EP T (.glo i) env W P X ↔ EE T (.glo i) env W ⟨fun d W1 => TI d ⟨fun i => P (some i) W1, .mk⟩, .mk⟩ X := by
  rw [sEE]; rw [sEP]
  exact EPp_glo
theorem EE_sli {l h : IE} : EE T (.sli a l h) env W Q X ↔ EE T a env W ⟨fun x W1 => EP T l env W1 ⟨fun y W2 => EP T h env W2 ⟨fun z W3 => RR (pSli W3 x y z) Q X, .mk⟩ X, .mk⟩ X, .mk⟩ X := by
  rw [sEE]; rw [sEP]
  exact EEp_sli
theorem EE_rev : EE T (.rev a) env W Q X ↔ EE T a env W ⟨fun x W1 => RR (pRev W1 x) Q X, .mk⟩ X := by
  rw [sEE]
  exact EEp_rev
theorem EE_non : EE T .non env W Q X ↔ Q .non W := by
  rw [sEE]
  exact EEp_non
theorem EE_tup : EE T (.tup a) env W Q X ↔ EA T a env W ⟨fun xs W1 => fits xs.length = true ∧ Q (.tup xs) W1, .mk⟩ X := by
  rw [sEE]; rw [sEA]
  exact EEp_tup
theorem EE_lst : EE T (.lst a) env W Q X ↔ EA T a env W ⟨fun xs W1 => fits xs.length = true ∧ Q (.lst xs) W1, .mk⟩ X := by
  rw [sEE]; rw [sEA]
  exact EEp_lst
theorem EE_mls : EE T (.mls a) env W Q X ↔ EA T a env W ⟨fun xs W1 => fits xs.length = true ∧ Q (.hd W1.length) (W1 ++ [.lst xs]), .mk⟩ X := by
  rw [sEE]; rw [sEA]
  exact EEp_mls
theorem EA_nil : EA T .nil env W QL X ↔ QL [] W := by
  rw [sEA]
  exact EAp_nil
theorem EA_cons : EA T (.cons a b) env W QL X ↔ EE T a env W ⟨fun x W1 => EA T b env W1 ⟨fun xs W2 => QL (x :: xs) W2, .mk⟩ X, .mk⟩ X := by
  rw [sEE]; rw [sEA]
  exact EAp_cons
theorem EA_star : EA T (.star a b) env W QL X ↔ EE T a env W ⟨fun x W1 => SQ W1 x ⟨fun ys => EA T b env W1 ⟨fun xs W2 => QL (ys ++ xs) W2, .mk⟩ X, .mk⟩, .mk⟩ X := by
  rw [sEE]; rw [sEA]
  exact EAp_star
theorem EE_blt {f : Blt} : EE T (.blt f a) env W Q X ↔ EA T a env W ⟨fun xs W1 => RR (pBlt f W1 xs) Q X, .mk⟩ X := by
  rw [sEE]; rw [sEA]
  exact EEp_blt
theorem EE_isi {ts : List TyC} : EE T (.isi a ts) env W Q X ↔ EE T a env W ⟨fun x W1 => BO (anyTy T W1 x ts) ⟨fun v => Q (.bl v) W1, .mk⟩, .mk⟩ X := by
  rw [sEE]
  exact EEp_isi
theorem EE_join : EE T (.join a b) env W Q X ↔ EE T a env W ⟨fun x W1 => TS_ x ⟨fun z => EE T b env W1 ⟨fun y W2 => RR (pJoin W2 (.str z) y) Q X, .mk⟩ X, .mk⟩, .mk⟩ X := by
  rw [sEE]
  exact EEp_join
theorem EE_call {f : Nat} : EE T (.call f a) env W Q X ↔ EA T a env W ⟨fun xs W1 => RR (T.cl f xs W1) Q X, .mk⟩ X := by
  rw [sEE]; rw [sEA]
  exact EEp_call
theorem EE_calS {f : Nat} : EE T (.calS f a) env W Q X ↔ EE T a env W ⟨fun x W1 => SQ W1 x ⟨fun xs => RR (T.cl f xs W1) Q X, .mk⟩, .mk⟩ X := by
  rw [sEE]
  exact EEp_calS
theorem EE_makS {f : Nat} {z : Bool} : EE T (.makS f z a) env W Q X ↔ EE T a env W ⟨fun x W1 => SQ W1 x ⟨fun xs => RR (mkI T f z xs W1) Q X, .mk⟩, .mk⟩ X := by
  rw [sEE]
  exact EEp_makS
theorem EE_calK {f : Nat} {s : String} : EE T (.calK f a s) env W Q X ↔ EE T a env W ⟨fun x W1 => RR (T.ck f [x] W1) Q X, .mk⟩ X := by
  rw [sEE]
  exact EEp_calK
theorem EE_make {f : Nat} {z : Bool} : EE T (.make f z a) env W Q X ↔ EA T a env W ⟨fun xs W1 => RR (mkI T f z xs W1) Q X, .mk⟩ X := by
  rw [sEE]; rw [sEA]
  exact EEp_make
theorem EE_meth : EE T (.meth m a b) env W Q X ↔ EE T a env W ⟨fun x W1 => TN W1 x ⟨fun c _ => BO (T.mth c m) ⟨fun f => EA T b env W1 ⟨fun xs W2 => RR (T.cl f (x :: xs) W2) Q X, .mk⟩ X, .mk⟩, .mk⟩, .mk⟩ X := by
  rw [sEE]; rw [sEA]
  exact EEp_meth
theorem EE_att : EE T (.att m a) env W Q X ↔ EE T a env W ⟨fun x W1 => TN W1 x ⟨fun c xs => BO (T.fld c m) ⟨fun i => BO xs[i]? ⟨fun d => Q d W1, .mk⟩, .mk⟩, .mk⟩, .mk⟩ X := by
  rw [sEE]
  exact EEp_att
theorem EE_lni : EE T (.lni a) env W Q X ↔ EE T a env W ⟨fun x W1 => TN W1 x ⟨fun c _ => BO (T.lnm c) ⟨fun f => RR (T.cl f [x] W1) ⟨fun d W2 => TI d ⟨fun i => (0 ≤ i ∧ i < 2 ^ 62) ∧ Q (.int i) W2, .mk⟩, .mk⟩ X, .mk⟩, .mk⟩, .mk⟩ X := by
  rw [sEE]
  exact EEp_lni
theorem EE_cat : EE T (.cat i m) env W Q X ↔ BO (T.cat i m) ⟨fun d => Q d W, .mk⟩ := by
  rw [sEE]
  exact EEp_cat
theorem EE_mli : EE T (.mli a) env W Q X ↔ EE T a env W ⟨fun x W1 => SQ W1 x ⟨fun xs => Q (.hd W1.length) (W1 ++ [.lst xs]), .mk⟩, .mk⟩ X := by
  rw [sEE]
  exact EEp_mli
theorem EE_comp {tg : IG} {own : List Nat} : EE T (.comp elt tg it cond own) env W Q X ↔ EI T it env W ⟨fun xs W1 => fits xs.length = true ∧ RR (compL tg (ev T cond).t (ev T elt).e (wipeE env own) xs W1) ⟨fun ys W2 => Q (.lst ys) W2, .mk⟩ X, .mk⟩ X := by
  rw [sEE]; rw [sEI]
  exact EEp_comp
theorem EE_mco {tg : IG} {own : List Nat} : EE T (.mco elt tg it cond own) env W Q X ↔ EI T it env W ⟨fun xs W1 => fits xs.length = true ∧ RR (compL tg (ev T cond).t (ev T elt).e (wipeE env own) xs W1) ⟨fun ys W2 => Q (.hd W2.length) (W2 ++ [.lst ys]), .mk⟩ X, .mk⟩ X := by
  rw [sEE]; rw [sEI]
  exact EEp_mco
theorem EE_fsp : EE T (.fsp a) env W Q X ↔ EA T a env W ⟨fun xs W1 => BO (strs? xs) ⟨fun ys => Q (.str ys.flatten) W1, .mk⟩, .mk⟩ X := by
  rw [sEE]; rw [sEA]
  exact EEp_fsp
theorem EA_fpn : EA T .fpn env W QL X ↔ QL [] W := by
  rw [sEA]
  exact EAp_fpn
theorem EA_fpc : EA T (.fpc a b) env W QL X ↔ EE T a env W ⟨fun x W1 => TS_ x ⟨fun z => Nat.ble z.length 65536 = true ∧ EA T b env W1 ⟨fun xs W2 => QL (.str z :: xs) W2, .mk⟩ X, .mk⟩, .mk⟩ X := by
  rw [sEE]; rw [sEA]
  exact EAp_fpc
theorem EE_fmt {f : Fm} : EE T (.fmt f a) env W Q X ↔ EE T a env W ⟨fun x W1 => RR (fmtD W1 f x) Q X, .mk⟩ X := by
  rw [sEE]
  exact EEp_fmt
theorem EE_frz : EE T (.frz a) env W Q X ↔ EE T a env W ⟨fun x W1 => RR (frz x W1) Q X, .mk⟩ X := by
  rw [sEE]
  exact EEp_frz
theorem EE_app : EE T (.app a b) env W Q X ↔ EE T a env W ⟨fun x W1 => TH W1 x ⟨fun _ _ => EE T b env W1 ⟨fun y W2 => TH W2 x ⟨fun n xs => fits (xs.length + 1) = true ∧ Q .non (W2.set n (.lst (xs ++ [y]))), .mk⟩, .mk⟩ X, .mk⟩, .mk⟩ X := by
  rw [sEE]
  exact EEp_app
theorem EI_rn1 : EI T (.rn1 a) env W QL X ↔ EE T a env W ⟨fun d W1 => TI d ⟨fun j => small62 j = true ∧ QL (rangeL 0 1 0 j.toNat) W1, .mk⟩, .mk⟩ X := by
  rw [sEE]; rw [sEI]
  exact EIp_rn1
theorem EI_rn2 : EI T (.rn2 a b) env W QL X ↔ EE T a env W ⟨fun d W1 => EE T b env W1 ⟨fun d2 W2 => TI d ⟨fun i => TI d2 ⟨fun j => (small62 i && small62 j) = true ∧ QL (rangeL i 1 0 (j - i).toNat) W2, .mk⟩, .mk⟩, .mk⟩ X, .mk⟩ X := by
  rw [sEE]; rw [sEI]
  exact EIp_rn2
theorem EI_enm : EI T (.enm a) env W QL X ↔ EE T a env W ⟨fun d W1 => TQ d ⟨fun xs => QL (enumL 0 xs) W1, .mk⟩, .mk⟩ X := by
  rw [sEE]; rw [sEI]
  exact EIp_enm
theorem EI_zip : EI T (.zip a b) env W QL X ↔ EE T a env W ⟨fun d W1 => EE T b env W1 ⟨fun e W2 => TZ d e ⟨fun xs ys => QL (List.zipWith (fun p q => .tup [p, q]) xs ys) W2, .mk⟩, .mk⟩ X, .mk⟩ X := by
  rw [sEE]; rw [sEI]
  exact EIp_zip
theorem RR_fe : RR ((ev T e).e env W) Q X ↔ EE T e env W Q X := by
  rw [sEE]
  exact RR_fep
theorem RR_ft : RR ((ev T e).t env W) QB X ↔ ET T e env W QB X := by
  rw [sET]
  exact RR_ftp
theorem RR_fa : RR ((ev T e).a env W) QL X ↔ EA T e env W QL X := by
  rw [sEA]
  exact RR_fap
theorem RR_fi : RR ((ev T e).i env W) QL X ↔ EI T e env W QL X := by
  rw [sEI]
  exact RR_fip
theorem RS_fs {s : SE} : RS (evS T s env W) k ↔ SS T s env W k := by
  rw [sSS]
  exact RS_fsp
theorem ET_var : ET T (.var i) env W QB X ↔ EE T (.var i) env W ⟨fun d W1 => TR W1 d ⟨fun v => QB v W1, .mk⟩, .mk⟩ X := by
  rw [sEE]; rw [sET]
  exact ETp_var
theorem ET_con {d : D} : ET T (.con d) env W QB X ↔ EE T (.con d) env W ⟨fun d W1 => TR W1 d ⟨fun v => QB v W1, .mk⟩, .mk⟩ X := by
  rw [sEE]; rw [sET]
  exact ETp_con
theorem ET_cmp : ET T (.cmp o a b) env W QB X ↔ EE T (.cmp o a b) env W ⟨fun d W1 => TR W1 d ⟨fun v => QB v W1, .mk⟩, .mk⟩ X := by
  rw [sEE]; rw [sET]
  exact ETp_cmp
theorem ET_chn : ET T (.chn o p a b c) env W QB X ↔ EE T (.chn o p a b c) env W ⟨fun d W1 => TR W1 d ⟨fun v => QB v W1, .mk⟩, .mk⟩ X := by
  rw [sEE]; rw [sET]
  exact ETp_chn
theorem ET_call {f : Nat} : ET T (.call f a) env W QB X ↔ EE T (.call f a) env W ⟨fun d W1 => TR W1 d ⟨fun v => QB v W1, .mk⟩, .mk⟩ X := by
  rw [sEE]; rw [sET]
  exact ETp_call
theorem ET_meth : ET T (.meth m a b) env W QB X ↔ EE T (.meth m a b) env W ⟨fun d W1 => TR W1 d ⟨fun v => QB v W1, .mk⟩, .mk⟩ X := by
  rw [sEE]; rw [sET]
  exact ETp_meth
theorem ET_att : ET T (.att m a) env W QB X ↔ EE T (.att m a) env W ⟨fun d W1 => TR W1 d ⟨fun v => QB v W1, .mk⟩, .mk⟩ X := by
  rw [sEE]; rw [sET]
  exact ETp_att
theorem ET_blt {f : Blt} : ET T (.blt f a) env W QB X ↔ EE T (.blt f a) env W ⟨fun d W1 => TR W1 d ⟨fun v => QB v W1, .mk⟩, .mk⟩ X := by
  rw [sEE]; rw [sET]
  exact ETp_blt
theorem ET_isi {ts : List TyC} : ET T (.isi a ts) env W QB X ↔ EE T (.isi a ts) env W ⟨fun d W1 => TR W1 d ⟨fun v => QB v W1, .mk⟩, .mk⟩ X := by
  rw [sEE]; rw [sET]
  exact ETp_isi
theorem EI_ife : EI T (.ife c a b) env W QL X ↔ EE T (.ife c a b) env W ⟨fun d W1 => IT d ⟨fun xs => QL xs W1, .mk⟩, .mk⟩ X := by
  rw [sEE]; rw [sEI]
  exact EIp_ife
theorem EI_var : EI T (.var i) env W QL X ↔ EE T (.var i) env W ⟨fun d W1 => IT d ⟨fun xs => QL xs W1, .mk⟩, .mk⟩ X := by
  rw [sEE]; rw [sEI]
  exact EIp_var
theorem EI_glo : EI T (.glo i) env W QL X ↔ EE T (.glo i) env W ⟨fun d W1 => IT d ⟨fun xs => QL xs W1, .mk⟩, .mk⟩ X := by
  rw [sEE]; rw [sEI]
  exact EIp_glo
theorem EI_con {d : D} : EI T (.con d) env W QL X ↔ EE T (.con d) env W ⟨fun d W1 => IT d ⟨fun xs => QL xs W1, .mk⟩, .mk⟩ X := by
  rw [sEE]; rw [sEI]
  exact EIp_con
theorem EI_sub : EI T (.sub a b) env W QL X ↔ EE T (.sub a b) env W ⟨fun d W1 => IT d ⟨fun xs => QL xs W1, .mk⟩, .mk⟩ X := by
  rw [sEE]; rw [sEI]
  exact EIp_sub
theorem EI_sli {l h : IE} : EI T (.sli a l h) env W QL X ↔ EE T (.sli a l h) env W ⟨fun d W1 => IT d ⟨fun xs => QL xs W1, .mk⟩, .mk⟩ X := by
  rw [sEE]; rw [sEI]
  exact EIp_sli
theorem EI_rev : EI T (.rev a) env W QL X ↔ EE T (.rev a) env W ⟨fun d W1 => IT d ⟨fun xs => QL xs W1, .mk⟩, .mk⟩ X := by
  rw [sEE]; rw [sEI]
  exact EIp_rev
theorem EI_lst : EI T (.lst a) env W QL X ↔ EE T (.lst a) env W ⟨fun d W1 => IT d ⟨fun xs => QL xs W1, .mk⟩, .mk⟩ X := by
  rw [sEE]; rw [sEI]
  exact EIp_lst
theorem EI_tup : EI T (.tup a) env W QL X ↔ EE T (.tup a) env W ⟨fun d W1 => IT d ⟨fun xs => QL xs W1, .mk⟩, .mk⟩ X := by
  rw [sEE]; rw [sEI]
  exact EIp_tup
theorem EI_att : EI T (.att m a) env W QL X ↔ EE T (.att m a) env W ⟨fun d W1 => IT d ⟨fun xs => QL xs W1, .mk⟩, .mk⟩ X := by
  rw [sEE]; rw [sEI]
  exact EIp_att
theorem EI_call {f : Nat} : EI T (.call f a) env W QL X ↔ EE T (.call f a) env W ⟨fun d W1 => IT d ⟨fun xs => QL xs W1, .mk⟩, .mk⟩ X := by
  rw [sEE]; rw [sEI]
  exact EIp_call
theorem EI_meth : EI T (.meth m a b) env W QL X ↔ EE T (.meth m a b) env W ⟨fun d W1 => IT d ⟨fun xs => QL xs W1, .mk⟩, .mk⟩ X := by
  rw [sEE]; rw [sEI]
  exact EIp_meth
theorem EI_comp {tg : IG} {own : List Nat} : EI T (.comp elt tg it cond own) env W QL X ↔ EE T (.comp elt tg it cond own) env W ⟨fun d W1 => IT d ⟨fun xs => QL xs W1, .mk⟩, .mk⟩ X := by
  rw [sEE]; rw [sEI]
  exact EIp_comp
theorem EI_bin {o : PySem.Operator} : EI T (.bin o a b) env W QL X ↔ EE T (.bin o a b) env W ⟨fun d W1 => IT d ⟨fun xs => QL xs W1, .mk⟩, .mk⟩ X := by
  rw [sEE]; rw [sEI]
  exact EIp_bin
theorem SS_skip : SS T .skip env W k ↔ k.nx env W := by
  rw [sSS]
  exact SSp_skip
theorem SS_nil : SS T .nil env W k ↔ k.nx env W := by
  rw [sSS]
  exact SSp_nil
theorem SS_seq : SS T (.seq s1 s2) env W k ↔ SS T s1 env W ⟨⟨fun e W => SS T s2 e W k, .mk⟩, k.rt, k.bk, k.ct, k.xc⟩ := by
  rw [sSS]
  exact SSp_seq
theorem SS_ex : SS T (.ex e) env W k ↔ EE T e env W ⟨fun _ W1 => k.nx env W1, .mk⟩ k.xc := by
  rw [sEE]; rw [sSS]
  exact SSp_ex
theorem SS_ret : SS T (.ret e) env W k ↔ EE T e env W ⟨fun d W1 => k.rt d W1, .mk⟩ k.xc := by
  rw [sEE]; rw [sSS]
  exact SSp_ret
theorem SS_retN : SS T .retN env W k ↔ k.rt .non W := by
  rw [sSS]
  exact SSp_retN
theorem SS_set : SS T (.set g e) env W k ↔ EE T e env W ⟨fun d W1 => BO (bindG W1 g d env) ⟨fun env1 => k.nx env1 W1, .mk⟩, .mk⟩ k.xc := by
  rw [sEE]; rw [sSS]
  exact SSp_set
theorem SS_par {is : List Nat} : SS T (.par is e) env W k ↔ EA T e env W ⟨fun ds W1 => BO (setP is ds env) ⟨fun env1 => k.nx env1 W1, .mk⟩, .mk⟩ k.xc := by
  rw [sEA]; rw [sSS]
  exact SSp_par
theorem SS_sct {tg : IG} {own : List Nat} {fz : Bool} : SS T (.sct i fz elt tg it cond own) env W k ↔ EE T (if fz then .comp elt tg it cond own else .mco elt tg it cond own) env W ⟨fun d W1 => i < env.length ∧ k.nx (env.set i (some d)) W1, .mk⟩ k.xc := by
  rw [sEE]; rw [sSS]
  exact SSp_sct
theorem SS_ite : SS T (.ite c s1 s2) env W k ↔ ET T c env W ⟨fun v W1 => (v = true → SS T s1 env W1 k) ∧ (v = false → SS T s2 env W1 k), .mk⟩ k.xc := by
  rw [sET]; rw [sSS]
  exact SSp_ite
theorem SS_forr : SS T (.forr g it s) env W k ↔ EI T it env W ⟨fun xs W1 => RS (forL g (evS T s) xs env W1) k, .mk⟩ k.xc := by
  rw [sEI]; rw [sSS]
  exact SSp_forr
theorem SS_forw : SS T (.forw g m e s) env W k ↔ EE T e env W ⟨fun d W1 => TF d ⟨fun c fs => BO (T.wlk c m) ⟨fun i => BO fs[i]? ⟨fun d => TL d ⟨fun xs => RS (forL g (evS T s) (enumL 0 xs) env W1) k, .mk⟩, .mk⟩, .mk⟩, .mk⟩, .mk⟩ k.xc := by
  rw [sEE]; rw [sSS]
  exact SSp_forw
theorem SS_whl : SS T (.whl c s) env W k ↔ RS (whlL (ev T c).t (evS T s) 1000000 env W) k := by
  rw [sSS]
  exact SSp_whl
theorem SS_brk : SS T .brk env W k ↔ k.bk env W := by
  rw [sSS]
  exact SSp_brk
theorem SS_cnt : SS T .cnt env W k ↔ k.ct env W := by
  rw [sSS]
  exact SSp_cnt
theorem SS_gho : SS T (.gho i s) env W k ↔ EV env[i]? ⟨fun d => RR (frz d W) ⟨fun d1 W1 => SS T s (env.set i (some d1)) W1 k, .mk⟩ k.xc, .mk⟩ := by
  rw [sSS]
  exact SSp_gho
theorem SS_aug {o : PySem.Operator} : SS T (.aug o i e) env W k ↔ EV env[i]? ⟨fun x => EE T e env W ⟨fun y W1 => RR (pAug o W1 x y) ⟨fun z W2 => k.nx (env.set i (some z)) W2, .mk⟩ k.xc, .mk⟩ k.xc, .mk⟩ := by
  rw [sEE]; rw [sSS]
  exact SSp_aug
theorem SS_sti : SS T (.sti a b e) env W k ↔ EE T e env W ⟨fun y W1 => EE T a env W1 ⟨fun x W2 => EE T b env W2 ⟨fun j W3 => BO (pSti W3 x j y) ⟨fun W4 => k.nx env W4, .mk⟩, .mk⟩ k.xc, .mk⟩ k.xc, .mk⟩ k.xc := by
  rw [sEE]; rw [sSS]
  exact SSp_sti
theorem SS_sta : SS T (.sta m a e) env W k ↔ EE T e env W ⟨fun y W1 => EE T a env W1 ⟨fun x W2 => BO (pSta T m W2 x y) ⟨fun W4 => k.nx env W4, .mk⟩, .mk⟩ k.xc, .mk⟩ k.xc := by
  rw [sEE]; rw [sSS]
  exact SSp_sta
end

/-! ### loops -/
theorem for_ok {g : IG} {body : EnvD → Wd → SR} {k : Kt} (I : List D → EnvD → Wd → Prop) : ∀ {xs : List D} {env : EnvD} {W : Wd}, I xs env W →
    (∀ x rest env W, I (x :: rest) env W → BO (bindG W g x env) ⟨fun env1 => RS (body env1 W) ⟨⟨I rest, .mk⟩, k.rt, k.nx, ⟨I rest, .mk⟩, k.xc⟩, .mk⟩) → (∀ env W, I [] env W → k.nx env W) → RS (forL g body xs env W) k
  | [], env, W, h, _, done => done env W h
  | x :: xs, env, W, h, step, done => by
    have z := step x xs env W h
    show RS (match bindG W g x env with | none => _ | some env1 => _) k
    cases q : bindG W g x env with
    | none => rw [q] at z; exact z.elim
    | some env1 =>
      rw [q] at z
      have z : RS (body env1 W) ⟨⟨I xs, .mk⟩, k.rt, k.nx, ⟨I xs, .mk⟩, k.xc⟩ := z
      show RS (match body env1 W with | .nx env2 W2 => _ | .ct env2 W2 => _ | .brk env2 W2 => _ | r => r) k
      cases q2 : body env1 W with
      | nx e2 W2 => rw [q2] at z; exact for_ok I z step done
      | ct e2 W2 => rw [q2] at z; exact for_ok I z step done
      | brk e2 W2 => rw [q2] at z; exact z
      | ret d W2 => rw [q2] at z; exact z
      | exc c l W2 => rw [q2] at z; exact z
      | no => rw [q2] at z; exact z.elim
theorem whl_ok {c : EvF Bool} {body : EnvD → Wd → SR} {k : Kt} (I : Nat → EnvD → Wd → Prop) : ∀ {n : Nat} {env : EnvD} {W : Wd}, I n env W → (∀ env W, ¬ I 0 env W) →
    (∀ n env W, I (n + 1) env W → RR (c env W) ⟨fun v W1 => (v = true → RS (body env W1) ⟨⟨I n, .mk⟩, k.rt, k.nx, ⟨I n, .mk⟩, k.xc⟩) ∧ (v = false → k.nx env W1), .mk⟩ k.xc) → ∀ {m : Nat}, n ≤ m → RS (whlL c body m env W) k
  | 0, env, W, h, z, _, m, _ => (z _ _ h).elim
  | n + 1, env, W, h, z, step, 0, hm => absurd hm (by omega)
  | n + 1, env, W, h, z, step, m + 1, hm => by
    have q := step n env W h
    show RS (Res.on (c env W) _) k
    rw [RS_on]
    refine RR_mono q (fun v W1 ⟨h1, h2⟩ => ?_) fun _ _ _ x => x
    cases v with
    | false => exact h2 rfl
    | true =>
      have h1 := h1 rfl
      show RS (match body env W1 with | .nx env2 W2 => _ | .ct env2 W2 => _ | .brk env2 W2 => _ | r => r) k
      cases q2 : body env W1 with
      | nx e2 W2 => rw [q2] at h1; exact whl_ok I h1 z step (by omega)
      | ct e2 W2 => rw [q2] at h1; exact whl_ok I h1 z step (by omega)
      | brk e2 W2 => rw [q2] at h1; exact h1
      | ret d W2 => rw [q2] at h1; exact h1
      | exc c l W2 => rw [q2] at h1; exact h1
      | no => rw [q2] at h1; exact h1.elim
/-- a comprehension: what is left, what is made -/
theorem comp_ok {tg : IG} {cond : EvF Bool} {elt : EvF D} {env : EnvD} {X : Cx} (I : List D → List D → Wd → Prop) : ∀ {xs acc : List D} {W : Wd} {Q : Cn (List D)}, I xs acc W →
    (∀ x rest acc W, I (x :: rest) acc W → BO (bindG W tg x env) ⟨fun env1 => RR (cond env1 W) ⟨fun v W1 => (v = true → RR (elt env1 W1) ⟨fun y W2 => I rest (acc ++ [y]) W2, .mk⟩ noX) ∧ (v = false → I rest acc W1), .mk⟩ noX, .mk⟩) →
    (∀ ys W, I [] (acc ++ ys) W → Q ys W) → RR (compL tg cond elt env xs W) Q X
  | [], acc, W, Q, h, _, done => done [] W (by rw [List.append_nil]; exact h)
  | x :: xs, acc, W, Q, h, step, done => by
    have z := step x xs acc W h
    unfold compL
    cases q : bindG W tg x env with
    | none => rw [q] at z; exact z.elim
    | some env1 =>
      rw [q] at z
      obtain ⟨v, W1, e1, h1, h2⟩ := RR.get (show RR (cond env1 W) _ _ from z)
      simp only [e1]
      cases v with
      | false => exact comp_ok I (h2 rfl) step done
      | true =>
        obtain ⟨y, W2, e2, h3⟩ := RR.get (h1 rfl)
        simp only [e2]
        have r : RR (compL tg cond elt env xs W2) ⟨fun ys W3 => Q (y :: ys) W3, .mk⟩ (noX) := comp_ok I h3 step fun ys W3 hI => done (y :: ys) W3 (by rw [List.append_assoc] at hI; exact hI)
        obtain ⟨ys, W3, e3, h4⟩ := RR.get r
        simp only [e3]
        exact h4
/-- .. of no changes -/
theorem comp_map {tg : IG} {cond : EvF Bool} {elt : EvF D} {env : EnvD} {X : Cx} {f : D → D} {p : D → Bool} {W : Wd} {Q : Cn (List D)} : ∀ {xs : List D},
    (∀ x ∈ xs, BO (bindG W tg x env) ⟨fun env1 => RR (cond env1 W) ⟨fun v W1 => W1 = W ∧ v = p x ∧ (v = true → RR (elt env1 W) ⟨fun y W2 => W2 = W ∧ y = f x, .mk⟩ noX), .mk⟩ noX, .mk⟩) →
    Q ((xs.filter p).map f) W → RR (compL tg cond elt env xs W) Q X := fun {xs} h q => by
  refine comp_ok (fun rest acc W1 => W1 = W ∧ (∀ x ∈ rest, x ∈ xs) ∧ acc ++ ((rest.filter p).map f) = (xs.filter p).map f) (acc := []) ⟨rfl, fun _ h => h, rfl⟩ (fun x rest acc W1 ⟨e, m, a⟩ => ?_) fun ys W1 ⟨e, _, a⟩ => ?_
  · subst e
    have z := h x (m x List.mem_cons_self)
    cases qb : bindG W1 tg x env with
    | none => rw [qb] at z; exact z.elim
    | some env1 =>
      rw [qb] at z
      refine RR_mono (show RR (cond env1 W1) _ _ from z) (fun v W2 ⟨e1, e2, e3⟩ => ⟨fun hv => ?_, fun hv => ?_⟩) fun _ _ _ x => x
      · subst e1
        refine RR_mono (e3 hv) (fun y W3 ⟨e4, e5⟩ => ?_) fun _ _ _ x => x
        subst e4 e5
        refine ⟨rfl, fun u hu => m u (List.mem_cons_of_mem _ hu), ?_⟩
        rw [← a, List.filter_cons, if_pos (by rw [← e2]; exact hv), List.map_cons, List.append_assoc]
        rfl
      · subst e1
        refine ⟨rfl, fun u hu => m u (List.mem_cons_of_mem _ hu), ?_⟩
        rw [← a, List.filter_cons, if_neg (by rw [← e2, hv]; decide)]
  · subst e
    have a : [] ++ ys ++ ((([] : List D).filter p).map f) = (xs.filter p).map f := a
    simp only [List.filter_nil, List.map_nil, List.append_nil, List.nil_append] at a
    rw [a]
    exact q
/-- a def's end -/
theorem RR_endS {r : SR} {Q : Cn D} {X : Cx} : RR (endS r) Q X ↔ RS r ⟨⟨fun _ W => Q .non W, .mk⟩, Q, ⟨fun _ _ => False, .mk⟩, ⟨fun _ _ => False, .mk⟩, X⟩ := by cases r <;> rfl

/-! ### what a piece of work leaves as it was -/
structure Frm (S : List Nat) (W W' : Wd) : Prop where
  len : W.length ≤ W'.length
  at_ : ∀ i s, i ∉ S → W[i]? = some s → W'[i]? = some s
theorem Frm.refl {S : List Nat} {W : Wd} : Frm S W W := ⟨Nat.le_refl _, fun _ _ _ h => h⟩
theorem Frm.trans {S : List Nat} {W W1 W2 : Wd} (a : Frm S W W1) (b : Frm S W1 W2) : Frm S W W2 := ⟨Nat.le_trans a.len b.len, fun i s h q => b.at_ i s h (a.at_ i s h q)⟩
theorem Frm.mono {S S' : List Nat} {W W' : Wd} (a : Frm S W W') (h : ∀ i ∈ S, i ∈ S') : Frm S' W W' := ⟨a.len, fun i s hi q => a.at_ i s (fun z => hi (h i z)) q⟩
theorem Frm.app {S : List Nat} {W : Wd} (l : List Slot) : Frm S W (W ++ l) := ⟨by simp, fun i s _ q => by
  rw [List.getElem?_append_left (List.getElem?_eq_some_iff.mp q).1]; exact q⟩
theorem Frm.set {S : List Nat} {W : Wd} {n : Nat} {s : Slot} (h : n ∈ S) : Frm S W (W.set n s) := ⟨by simp, fun i t hi q => by
  rw [List.getElem?_set_ne (fun e : n = i => hi (by rw [← e]; exact h))]; exact q⟩
theorem Frm.drop {S : List Nat} {W W' : Wd} {n : Nat} (a : Frm (n :: S) W W') (h : W.length ≤ n) : Frm S W W' := ⟨a.len, fun i s hi q => a.at_ i s (fun z => by
  rcases List.mem_cons.mp z with e | z
  · have := (List.getElem?_eq_some_iff.mp q).1
    omega
  · exact hi z) q⟩
theorem get_app {W : Wd} {s : Slot} : (W ++ [s])[W.length]? = some s := by simp
theorem get_set {W : Wd} {n : Nat} {s t : Slot} (h : W[n]? = some t) : (W.set n s)[n]? = some s := by
  rw [List.getElem?_set_self (List.getElem?_eq_some_iff.mp h).1]
theorem lt_of_get {W : Wd} {n : Nat} {t : Slot} (h : W[n]? = some t) : n < W.length := (List.getElem?_eq_some_iff.mp h).1
end VI
-- VY
set_option Elab.async false
set_option linter.all false
set_option maxRecDepth 100000
set_option maxHeartbeats 2000000
namespace VI
open PySem L2

/-! ### the operations at data of a known form -/
section
variable {W : Wd} {Q : Cn D} {X : Cx} {i j : Int} {x y : List Nat} {xs ys : List D} {a b d e : D} {n : Nat}
/-- a list that stands in a slot -/
def LS (o : Option Slot) (P : Cp (List D)) : Prop := match o with
  | some (.lst xs) => P xs
  | some (.ro xs) => P xs
  | _ => False
theorem LS_lst {P : Cp (List D)} : LS (some (.lst xs)) P ↔ P xs := Iff.rfl
theorem LS_ro {P : Cp (List D)} : LS (some (.ro xs)) P ↔ P xs := Iff.rfl
/-- .. that may be changed -/
def LM (o : Option Slot) (P : Cp (List D)) : Prop := match o with
  | some (.lst xs) => P xs
  | _ => False
theorem LM_lst {P : Cp (List D)} : LM (some (.lst xs)) P ↔ P xs := Iff.rfl
/-- an instance that stands in a slot -/
def LI (o : Option Slot) (P : Cp2 Nat (List D)) : Prop := match o with
  | some (.ins c xs) => P c xs
  | _ => False
theorem LI_ins {c : Nat} {P : Cp2 Nat (List D)} : LI (some (.ins c xs)) P ↔ P c xs := Iff.rfl
theorem TH_at {P : Cp2 Nat (List D)} : TH W (.hd n) P ↔ LM W[n]? ⟨fun xs => P n xs, .mk⟩ := Iff.rfl
theorem TN_at {P : Cp2 Nat (List D)} : TN W (.hd n) P ↔ LI W[n]? P := by
  unfold TN LI
  simp only [look]
  cases W[n]? with
  | none => exact Iff.rfl
  | some s => cases s <;> exact Iff.rfl
theorem seq_at : seq? W (.hd n) = (match W[n]? with
    | some (.lst xs) => some xs
    | some (.ro xs) => some xs
    | _ => none) := by
  unfold seq?
  simp only [lookR, look]
  cases W[n]? with
  | none => rfl
  | some s => cases s <;> rfl
theorem SQ_at {P : Cp (List D)} : SQ W (.hd n) P ↔ LS W[n]? P := by
  unfold SQ
  rw [seq_at]
  unfold LS
  cases W[n]? with
  | none => exact Iff.rfl
  | some s => cases s <;> exact Iff.rfl

-- sums
theorem add_int : RR (pBin .Add W (.int i) (.int j)) Q X ↔ Q (.int (i + j)) W := Iff.rfl
theorem add_str : RR (pBin .Add W (.str x) (.str y)) Q X ↔ fits (x.length + y.length) = true ∧ Q (.str (x ++ y)) W := RR_if
theorem add_lst : RR (pBin .Add W (.lst xs) (.lst ys)) Q X ↔ fits (xs.length + ys.length) = true ∧ Q (.lst (xs ++ ys)) W := RR_if
theorem add_tup : RR (pBin .Add W (.tup xs) (.tup ys)) Q X ↔ fits (xs.length + ys.length) = true ∧ Q (.tup (xs ++ ys)) W := RR_if
theorem adm_at : RR (pAdm W (.hd n) (.lst ys)) Q X ↔ LM W[n]? ⟨fun xs => fits (xs.length + ys.length) = true ∧ Q (.hd W.length) (W ++ [.lst (xs ++ ys)]), .mk⟩ := by
  unfold pAdm LM
  simp only [look]
  cases W[n]? with
  | none => exact Iff.rfl
  | some s => cases s <;> first | exact Iff.rfl | exact RR_if
theorem adm_lst : RR (pAdm W (.lst xs) (.lst ys)) Q X ↔ fits (xs.length + ys.length) = true ∧ Q (.hd W.length) (W ++ [.lst (xs ++ ys)]) := RR_if
theorem sub_int : RR (pBin .Sub W (.int i) (.int j)) Q X ↔ Q (.int (i - j)) W := Iff.rfl
theorem mul_int : RR (pBin .Mult W (.int i) (.int j)) Q X ↔ wideMul i j = true ∧ Q (.int (i * j)) W := RR_if
theorem mul_lst : RR (pBin .Mult W (.lst xs) (.int j)) Q X ↔ (j < 2 ^ 63 ∧ -(2 ^ 63) ≤ j ∧ fits (xs.length * j.toNat) = true) ∧ Q (.lst (List.replicate j.toNat xs).flatten) W := by
  show RR (if j < 2 ^ 63 && (decide (-(2 ^ 63) ≤ j) && fits (xs.length * j.toNat)) then _ else _) Q X ↔ _
  rw [RR_if]
  simp only [Bool.and_eq_true, decide_eq_true_eq]
  exact Iff.rfl
theorem mul_chr {c : Nat} : RR (pBin .Mult W (.str [c]) (.int j)) Q X ↔ (-1000 ≤ j ∧ j ≤ 1000) ∧ Q (.str (List.replicate j.toNat c)) W := by
  show RR (if decide (-1000 ≤ j) && decide (j ≤ 1000) then _ else _) Q X ↔ _
  rw [RR_if]
  simp only [Bool.and_eq_true, decide_eq_true_eq]
  exact Iff.rfl
theorem RR_pInt {f : Int → Int → Option Int} : RR (pInt W (.int i) (.int j) f) Q X ↔ BO (f i j) ⟨fun k => Q (.int k) W, .mk⟩ := by
  unfold pInt
  simp only [look]
  cases f i j <;> exact Iff.rfl
theorem div_int : RR (pBin .FloorDiv W (.int i) (.int j)) Q X ↔ BO (fDiv i j) ⟨fun k => Q (.int k) W, .mk⟩ := RR_pInt
theorem mod_int : RR (pBin .Mod W (.int i) (.int j)) Q X ↔ BO (fMod i j) ⟨fun k => Q (.int k) W, .mk⟩ := RR_pInt
theorem pow_int : RR (pBin .Pow W (.int i) (.int j)) Q X ↔ BO (fPow i j) ⟨fun k => Q (.int k) W, .mk⟩ := RR_pInt
theorem shl_int : RR (pBin .LShift W (.int i) (.int j)) Q X ↔ BO (fShl i j) ⟨fun k => Q (.int k) W, .mk⟩ := RR_pInt
theorem neg_int : RR (pNeg W (.int i)) Q X ↔ Q (.int (-i)) W := Iff.rfl
theorem fMod_of (h : 0 < j) : fMod i j = some (i % j) := by unfold fMod; simp [h]
theorem fDiv_of (h : 0 < j) (h2 : j < 2 ^ 200) : fDiv i j = some (i / j) := by
  unfold fDiv
  have z : j.natAbs.log2 < 9000 := by
    have e : (j.natAbs : Int) = j := Int.natAbs_of_nonneg (by omega)
    have h3 : j.natAbs < 2 ^ 200 := by
      have : (j.natAbs : Int) < 2 ^ 200 := by rw [e]; exact h2
      exact_mod_cast this
    have h0 : j.natAbs ≠ 0 := by omega
    have := (Nat.log2_lt h0).mpr h3
    omega
  have z2 : Nat.blt j.natAbs.log2 9000 = true := Nat.ble_eq_true_of_le z
  rw [z2]
  simp [h]
-- comparisons
theorem eqv_of {d e : PySem.PyData} (ha : toPy a = some d) (hb : toPy b = some e) (la : look W a = a) (lb : look W b = b) (h : PySem.SeqAt.shaped d = true) (h2 : PySem.SeqAt.shaped e = true) : eqvD W a b = some (PySem.PyData.eqv d e) := by
  unfold eqvD
  rw [la, lb, ha, hb]
  simp [h, h2]
theorem shp_int : PySem.SeqAt.shaped (.int i) = true := rfl
theorem cEq_int : RR (pCmp .Eq W (.int i) (.int j)) Q X ↔ Q (.bl (decide (i = j))) W := by
  have e : eqvD W (.int i) (.int j) = some (decide (i = j)) := by
    unfold eqvD
    simp only [look, toPy]
    rfl
  show RR (rB W (eqvD W (.int i) (.int j))) Q X ↔ _
  rw [e]
  exact Iff.rfl
theorem cNe_int : RR (pCmp .NotEq W (.int i) (.int j)) Q X ↔ Q (.bl (!decide (i = j))) W := by
  have e : eqvD W (.int i) (.int j) = some (decide (i = j)) := by
    unfold eqvD
    simp only [look, toPy]
    rfl
  show RR (rB W ((eqvD W (.int i) (.int j)).map not)) Q X ↔ _
  rw [e]
  exact Iff.rfl
theorem cLt_int : RR (pCmp .Lt W (.int i) (.int j)) Q X ↔ Q (.bl (decide (i < j))) W := Iff.rfl
theorem cLe_int : RR (pCmp .LtE W (.int i) (.int j)) Q X ↔ Q (.bl (decide (i ≤ j))) W := Iff.rfl
theorem cGt_int : RR (pCmp .Gt W (.int i) (.int j)) Q X ↔ Q (.bl (decide (j < i))) W := Iff.rfl
theorem cGe_int : RR (pCmp .GtE W (.int i) (.int j)) Q X ↔ Q (.bl (decide (j ≤ i))) W := Iff.rfl
theorem cIs_non : RR (pCmp .Is W a .non) Q X ↔ Q (.bl (isNon a)) W := Iff.rfl
theorem cIsN_non : RR (pCmp .IsNot W a .non) Q X ↔ Q (.bl (!isNon a)) W := Iff.rfl
theorem cEq_D : RR (pCmp .Eq W a b) Q X ↔ BO (eqvD W a b) ⟨fun v => Q (.bl v) W, .mk⟩ := RR_rB
theorem cNe_D : RR (pCmp .NotEq W a b) Q X ↔ BO (eqvD W a b) ⟨fun v => Q (.bl (!v)) W, .mk⟩ := by
  show RR (rB W ((eqvD W a b).map not)) Q X ↔ _
  cases eqvD W a b <;> exact Iff.rfl
theorem inD_tup : inD W a (.tup xs) = if flatD a && xs.all flatD then some (xs.any fun y => eqF y a) else none := rfl
theorem inD_lst : inD W a (.lst xs) = if flatD a && xs.all flatD then some (xs.any fun y => eqF y a) else none := rfl
theorem cIn_tup : RR (pCmp .In W a (.tup xs)) Q X ↔ (flatD a && xs.all flatD) = true ∧ Q (.bl (xs.any fun y => eqF y a)) W := by
  show RR (rB W (inD W a (.tup xs))) Q X ↔ _
  rw [inD_tup]
  cases flatD a && xs.all flatD <;> simp [rB, RR]
theorem cIn_lst : RR (pCmp .In W a (.lst xs)) Q X ↔ (flatD a && xs.all flatD) = true ∧ Q (.bl (xs.any fun y => eqF y a)) W := by
  show RR (rB W (inD W a (.lst xs))) Q X ↔ _
  rw [inD_lst]
  cases flatD a && xs.all flatD <;> simp [rB, RR]
theorem cNi_tup : RR (pCmp .NotIn W a (.tup xs)) Q X ↔ (flatD a && xs.all flatD) = true ∧ Q (.bl (!xs.any fun y => eqF y a)) W := by
  show RR (rB W ((inD W a (.tup xs)).map not)) Q X ↔ _
  rw [inD_tup]
  cases flatD a && xs.all flatD <;> simp [rB, RR]
theorem cNi_lst : RR (pCmp .NotIn W a (.lst xs)) Q X ↔ (flatD a && xs.all flatD) = true ∧ Q (.bl (!xs.any fun y => eqF y a)) W := by
  show RR (rB W ((inD W a (.lst xs)).map not)) Q X ↔ _
  rw [inD_lst]
  cases flatD a && xs.all flatD <;> simp [rB, RR]
-- items, slices
theorem sub_lst : RR (pSub W (.lst xs) (.int i)) Q X ↔ BO (atI xs i) ⟨fun d => Q d W, .mk⟩ := by
  unfold pSub
  simp only [lookR, look]
  cases atI xs i <;> exact Iff.rfl
theorem sub_tup : RR (pSub W (.tup xs) (.int i)) Q X ↔ BO (atI xs i) ⟨fun d => Q d W, .mk⟩ := by
  unfold pSub
  simp only [lookR, look]
  cases atI xs i <;> exact Iff.rfl
theorem sub_str : RR (pSub W (.str x) (.int i)) Q X ↔ fits x.length = true ∧ BO (atI x i) ⟨fun c => Q (.str [c]) W, .mk⟩ := by
  unfold pSub
  simp only [lookR, look]
  rw [RR_if]
  cases atI x i <;> exact Iff.rfl
theorem sub_at : RR (pSub W (.hd n) (.int i)) Q X ↔ LS W[n]? ⟨fun xs => BO (atI xs i) ⟨fun d => Q d W, .mk⟩, .mk⟩ := by
  unfold pSub LS
  simp only [lookR, look]
  cases W[n]? with
  | none => exact Iff.rfl
  | some s => cases s <;> first | exact Iff.rfl | (dsimp only; rename_i xs; cases atI xs i <;> exact Iff.rfl)
theorem sli_lst {l h : Option Int} : RR (pSli W (.lst xs) l h) Q X ↔ Q (.lst (cutD xs l h)) W := Iff.rfl
theorem sli_tup {l h : Option Int} : RR (pSli W (.tup xs) l h) Q X ↔ Q (.tup (cutD xs l h)) W := Iff.rfl
theorem sli_str {l h : Option Int} : RR (pSli W (.str x) l h) Q X ↔ fits x.length = true ∧ Q (.str (cutN x l h)) W := RR_if
theorem sli_at {l h : Option Int} : RR (pSli W (.hd n) l h) Q X ↔ LS W[n]? ⟨fun xs => Q (.lst (cutD xs l h)) W, .mk⟩ := by
  unfold pSli LS
  simp only [lookR, look]
  cases W[n]? with
  | none => exact Iff.rfl
  | some s => cases s <;> exact Iff.rfl
theorem rev_lst : RR (pRev W (.lst xs)) Q X ↔ Q (.lst xs.reverse) W := Iff.rfl
theorem rev_tup : RR (pRev W (.tup xs)) Q X ↔ Q (.tup xs.reverse) W := Iff.rfl
theorem sti_at {P : Cp Wd} : BO (pSti W (.hd n) (.int i) a) P ↔ LM W[n]? ⟨fun xs => BO (ixN xs.length i) ⟨fun j => P (W.set n (.lst (xs.set j a))), .mk⟩, .mk⟩ := by
  unfold pSti LM
  dsimp only
  cases W[n]? with
  | none => exact Iff.rfl
  | some s => cases s <;> first | exact Iff.rfl | (dsimp only; rename_i xs; cases ixN xs.length i <;> exact Iff.rfl)
theorem sta_at {P : Cp Wd} {T : Tb} {m : Nat} : BO (pSta T m W (.hd n) a) P ↔ LI W[n]? ⟨fun c xs => BO (T.fld c m) ⟨fun i => BO (putD i a xs) ⟨fun ys => Nat.blt ys.length 500 = true ∧ P (W.set n (.ins c ys)), .mk⟩, .mk⟩, .mk⟩ := by
  unfold pSta LI
  dsimp only
  cases W[n]? with
  | none => exact Iff.rfl
  | some s =>
    cases s <;> try exact Iff.rfl
    rename_i c xs
    dsimp only
    cases T.fld c m with
    | none => exact Iff.rfl
    | some i =>
      dsimp only
      cases h : putD i a xs with
      | none => simp [BO, h]
      | some ys =>
        simp only [BO, h]
        cases Nat.blt ys.length 500 <;> simp
-- the builtins
theorem len_lst : RR (pBlt .len W [.lst xs]) Q X ↔ Q (.int xs.length) W := Iff.rfl
theorem len_tup : RR (pBlt .len W [.tup xs]) Q X ↔ Q (.int xs.length) W := Iff.rfl
theorem len_str : RR (pBlt .len W [.str x]) Q X ↔ fits x.length = true ∧ Q (.int x.length) W := RR_if
theorem len_at : RR (pBlt .len W [.hd n]) Q X ↔ LS W[n]? ⟨fun xs => Q (.int xs.length) W, .mk⟩ := by
  unfold pBlt LS
  simp only [lookR, look]
  cases W[n]? with
  | none => exact Iff.rfl
  | some s => cases s <;> exact Iff.rfl
theorem all_lst : RR (pBlt .all W [.lst xs]) Q X ↔ BO (bools? xs) ⟨fun bs => Q (.bl (bs.all id)) W, .mk⟩ := by
  unfold pBlt
  simp only [lookR, look]
  cases bools? xs <;> exact Iff.rfl
theorem any_lst : RR (pBlt .any W [.lst xs]) Q X ↔ BO (bools? xs) ⟨fun bs => Q (.bl (bs.any id)) W, .mk⟩ := by
  unfold pBlt
  simp only [lookR, look]
  cases bools? xs <;> exact Iff.rfl
theorem sum_lst : RR (pBlt .sum W [.lst xs]) Q X ↔ BO (ints? xs) ⟨fun bs => Q (.int bs.sum) W, .mk⟩ := by
  unfold pBlt
  simp only [lookR, look]
  cases ints? xs <;> exact Iff.rfl
theorem max_int : RR (pBlt .max2 W [.int i, .int j]) Q X ↔ Q (.int (if j > i then j else i)) W := Iff.rfl
theorem min_int : RR (pBlt .min2 W [.int i, .int j]) Q X ↔ Q (.int (if j < i then j else i)) W := Iff.rfl
theorem abs_int : RR (pBlt .abs W [.int i]) Q X ↔ Q (.int (if i < 0 then -i else i)) W := Iff.rfl
theorem str_int : RR (pBlt .str W [.int i]) Q X ↔ Nat.blt i.natAbs.log2 1920 = true ∧ Q (ofStr (toString i)) W := RR_if
theorem int_int : RR (pBlt .int W [.int i]) Q X ↔ Q (.int i) W := Iff.rfl
theorem int_bl {v : Bool} : RR (pBlt .int W [.bl v]) Q X ↔ Q (.int (if v then 1 else 0)) W := Iff.rfl
theorem list_any : RR (pBlt .list W [a]) Q X ↔ SQ W a ⟨fun xs => Q (.lst xs) W, .mk⟩ := by
  unfold pBlt SQ
  dsimp only
  cases seq? W a <;> exact Iff.rfl
theorem tuple_lst : RR (pBlt .tuple W [.lst xs]) Q X ↔ Q (.tup xs) W := Iff.rfl
theorem tuple_tup : RR (pBlt .tuple W [.tup xs]) Q X ↔ Q (.tup xs) W := Iff.rfl
theorem join_lst : RR (pJoin W (.str x) (.lst xs)) Q X ↔ BO (strs? xs) ⟨fun ys => fits ((ys.map (·.length)).sum + ys.length * x.length) = true ∧ Q (ofStr (Txt.join (toStr x) (ys.map toStr))) W, .mk⟩ := by
  unfold pJoin
  simp only [lookR, look]
  cases strs? xs with
  | none => exact Iff.rfl
  | some ys => exact RR_if
theorem fmt_val : RR (fmtD W .val (.str x)) Q X ↔ fits x.length = true ∧ Q (.str x) W := RR_if
theorem fmt_vali : RR (fmtD W .val (.int i)) Q X ↔ Nat.blt i.natAbs.log2 1920 = true ∧ Q (ofStr (toString i)) W := RR_if
theorem fmt_lft : RR (fmtD W .lft (.str x)) Q X ↔ fits (x.length + 7) = true ∧ Q (.str (x ++ List.replicate (7 - x.length) 32)) W := RR_if
theorem fmt_rgt : RR (fmtD W .rgt (.int i)) Q X ↔ (0 ≤ i ∧ i < 10) ∧ Q (.str [32, 32, 48 + i.toNat]) W := by
  show RR (if decide (0 ≤ i) && decide (i < 10) then _ else _) Q X ↔ _
  rw [RR_if]
  simp only [Bool.and_eq_true, decide_eq_true_eq]
  exact Iff.rfl
theorem frz_non : RR (frz .non W) Q X ↔ Q .non W := Iff.rfl
theorem frz_bl {v : Bool} : RR (frz (.bl v) W) Q X ↔ Q (.bl v) W := Iff.rfl
theorem frz_int : RR (frz (.int i) W) Q X ↔ Q (.int i) W := Iff.rfl
theorem frz_str : RR (frz (.str x) W) Q X ↔ Q (.str x) W := Iff.rfl
theorem frz_lst : RR (frz (.lst xs) W) Q X ↔ Q (.lst xs) W := Iff.rfl
theorem frz_tup : RR (frz (.tup xs) W) Q X ↔ Q (.tup xs) W := Iff.rfl
theorem frz_ins {c : Nat} : RR (frz (.ins c xs) W) Q X ↔ Q (.ins c xs) W := Iff.rfl
/-- what a handle stands for, frozen -/
def LF (o : Option Slot) (P : Cp D) : Prop := match o with
  | some (.lst xs) => P (.lst xs)
  | some (.ins c xs) => P (.ins c xs)
  | _ => False
theorem LF_lst {P : Cp D} : LF (some (.lst xs)) P ↔ P (.lst xs) := Iff.rfl
theorem LF_ins {c : Nat} {P : Cp D} : LF (some (.ins c xs)) P ↔ P (.ins c xs) := Iff.rfl
theorem frz_at : RR (frz (.hd n) W) Q X ↔ LF W[n]? ⟨fun d => Q d (W.set n .dead), .mk⟩ := by
  unfold frz LF
  dsimp only
  cases W[n]? with
  | none => exact Iff.rfl
  | some s => cases s <;> exact Iff.rfl
theorem aug_add : RR (pAug .Add W (.int i) (.int j)) Q X ↔ Q (.int (i + j)) W := Iff.rfl
theorem aug_sub : RR (pAug .Sub W (.int i) (.int j)) Q X ↔ Q (.int (i - j)) W := Iff.rfl
end
/-- isinstance -/
def AT (T : Tb) (W : Wd) (d : D) (ts : List TyC) (P : Cp Bool) : Prop := BO (anyTy T W d ts) P
theorem BO_any {T : Tb} {W : Wd} {d : D} {ts : List TyC} {P : Cp Bool} : BO (anyTy T W d ts) P ↔ AT T W d ts P := Iff.rfl
theorem AT_nil {T : Tb} {W : Wd} {d : D} {P : Cp Bool} : AT T W d [] P ↔ P false := Iff.rfl
theorem AT_cons {T : Tb} {W : Wd} {d : D} {t : TyC} {ts : List TyC} {P : Cp Bool} : AT T W d (t :: ts) P ↔ BO (tyIs T W t d) ⟨fun v => (v = true → P true) ∧ (v = false → AT T W d ts P), .mk⟩ := by
  unfold AT
  simp only [anyTy]
  cases tyIs T W t d with
  | none => exact Iff.rfl
  | some v => cases v <;> simp [BO]
theorem ty_NoneType_bool {W : Wd} {T : Tb} {b : Bool} {i : Int} {z : List Nat} {xs : List D} : tyIs T W (.b "bool") (.non) = some false := rfl
theorem ty_NoneType_int {W : Wd} {T : Tb} {b : Bool} {i : Int} {z : List Nat} {xs : List D} : tyIs T W (.b "int") (.non) = some false := rfl
theorem ty_NoneType_str {W : Wd} {T : Tb} {b : Bool} {i : Int} {z : List Nat} {xs : List D} : tyIs T W (.b "str") (.non) = some false := rfl
theorem ty_NoneType_list {W : Wd} {T : Tb} {b : Bool} {i : Int} {z : List Nat} {xs : List D} : tyIs T W (.b "list") (.non) = some false := rfl
theorem ty_NoneType_tuple {W : Wd} {T : Tb} {b : Bool} {i : Int} {z : List Nat} {xs : List D} : tyIs T W (.b "tuple") (.non) = some false := rfl
theorem ty_bool_bool {W : Wd} {T : Tb} {b : Bool} {i : Int} {z : List Nat} {xs : List D} : tyIs T W (.b "bool") (.bl b) = some true := rfl
theorem ty_bool_int {W : Wd} {T : Tb} {b : Bool} {i : Int} {z : List Nat} {xs : List D} : tyIs T W (.b "int") (.bl b) = some true := rfl
theorem ty_bool_str {W : Wd} {T : Tb} {b : Bool} {i : Int} {z : List Nat} {xs : List D} : tyIs T W (.b "str") (.bl b) = some false := rfl
theorem ty_bool_list {W : Wd} {T : Tb} {b : Bool} {i : Int} {z : List Nat} {xs : List D} : tyIs T W (.b "list") (.bl b) = some false := rfl
theorem ty_bool_tuple {W : Wd} {T : Tb} {b : Bool} {i : Int} {z : List Nat} {xs : List D} : tyIs T W (.b "tuple") (.bl b) = some false := rfl
theorem ty_int_bool {W : Wd} {T : Tb} {b : Bool} {i : Int} {z : List Nat} {xs : List D} : tyIs T W (.b "bool") (.int i) = some false := rfl
theorem ty_int_int {W : Wd} {T : Tb} {b : Bool} {i : Int} {z : List Nat} {xs : List D} : tyIs T W (.b "int") (.int i) = some true := rfl
theorem ty_int_str {W : Wd} {T : Tb} {b : Bool} {i : Int} {z : List Nat} {xs : List D} : tyIs T W (.b "str") (.int i) = some false := rfl
theorem ty_int_list {W : Wd} {T : Tb} {b : Bool} {i : Int} {z : List Nat} {xs : List D} : tyIs T W (.b "list") (.int i) = some false := rfl
theorem ty_int_tuple {W : Wd} {T : Tb} {b : Bool} {i : Int} {z : List Nat} {xs : List D} : tyIs T W (.b "tuple") (.int i) = some false := rfl
theorem ty_str_bool {W : Wd} {T : Tb} {b : Bool} {i : Int} {z : List Nat} {xs : List D} : tyIs T W (.b "bool") (.str z) = some false := rfl
theorem ty_str_int {W : Wd} {T : Tb} {b : Bool} {i : Int} {z : List Nat} {xs : List D} : tyIs T W (.b "int") (.str z) = some false := rfl
theorem ty_str_str {W : Wd} {T : Tb} {b : Bool} {i : Int} {z : List Nat} {xs : List D} : tyIs T W (.b "str") (.str z) = some true := rfl
theorem ty_str_list {W : Wd} {T : Tb} {b : Bool} {i : Int} {z : List Nat} {xs : List D} : tyIs T W (.b "list") (.str z) = some false := rfl
theorem ty_str_tuple {W : Wd} {T : Tb} {b : Bool} {i : Int} {z : List Nat} {xs : List D} : tyIs T W (.b "tuple") (.str z) = some false := rfl
theorem ty_list_bool {W : Wd} {T : Tb} {b : Bool} {i : Int} {z : List Nat} {xs : List D} : tyIs T W (.b "bool") (.lst xs) = some false := rfl
theorem ty_list_int {W : Wd} {T : Tb} {b : Bool} {i : Int} {z : List Nat} {xs : List D} : tyIs T W (.b "int") (.lst xs) = some false := rfl
theorem ty_list_str {W : Wd} {T : Tb} {b : Bool} {i : Int} {z : List Nat} {xs : List D} : tyIs T W (.b "str") (.lst xs) = some false := rfl
theorem ty_list_list {W : Wd} {T : Tb} {b : Bool} {i : Int} {z : List Nat} {xs : List D} : tyIs T W (.b "list") (.lst xs) = some true := rfl
theorem ty_list_tuple {W : Wd} {T : Tb} {b : Bool} {i : Int} {z : List Nat} {xs : List D} : tyIs T W (.b "tuple") (.lst xs) = some false := rfl
theorem ty_tuple_bool {W : Wd} {T : Tb} {b : Bool} {i : Int} {z : List Nat} {xs : List D} : tyIs T W (.b "bool") (.tup xs) = some false := rfl
theorem ty_tuple_int {W : Wd} {T : Tb} {b : Bool} {i : Int} {z : List Nat} {xs : List D} : tyIs T W (.b "int") (.tup xs) = some false := rfl
theorem ty_tuple_str {W : Wd} {T : Tb} {b : Bool} {i : Int} {z : List Nat} {xs : List D} : tyIs T W (.b "str") (.tup xs) = some false := rfl
theorem ty_tuple_list {W : Wd} {T : Tb} {b : Bool} {i : Int} {z : List Nat} {xs : List D} : tyIs T W (.b "list") (.tup xs) = some false := rfl
theorem ty_tuple_tuple {W : Wd} {T : Tb} {b : Bool} {i : Int} {z : List Nat} {xs : List D} : tyIs T W (.b "tuple") (.tup xs) = some true := rfl
theorem ty_NoneType_c {W : Wd} {T : Tb} {b : Bool} {i : Int} {z : List Nat} {xs : List D} {k : Nat} : tyIs T W (.c k) (.non) = some false := rfl
theorem ty_bool_c {W : Wd} {T : Tb} {b : Bool} {i : Int} {z : List Nat} {xs : List D} {k : Nat} : tyIs T W (.c k) (.bl b) = some false := rfl
theorem ty_int_c {W : Wd} {T : Tb} {b : Bool} {i : Int} {z : List Nat} {xs : List D} {k : Nat} : tyIs T W (.c k) (.int i) = some false := rfl
theorem ty_str_c {W : Wd} {T : Tb} {b : Bool} {i : Int} {z : List Nat} {xs : List D} {k : Nat} : tyIs T W (.c k) (.str z) = some false := rfl
theorem ty_list_c {W : Wd} {T : Tb} {b : Bool} {i : Int} {z : List Nat} {xs : List D} {k : Nat} : tyIs T W (.c k) (.lst xs) = some false := rfl
theorem ty_tuple_c {W : Wd} {T : Tb} {b : Bool} {i : Int} {z : List Nat} {xs : List D} {k : Nat} : tyIs T W (.c k) (.tup xs) = some false := rfl
-- items of known lists
section
variable {α : Type} {a b c d e : α} {l : List α}
theorem at0 : atI (a :: l) 0 = some a := by
  unfold atI ixN
  rw [if_pos (by decide), if_pos (by simp only [List.length_cons]; omega)]
  rfl
theorem at1 : atI (a :: b :: l) 1 = some b := by
  unfold atI ixN
  rw [if_pos (by decide), if_pos (by simp only [List.length_cons]; omega)]
  rfl
theorem at2 : atI (a :: b :: c :: l) 2 = some c := by
  unfold atI ixN
  rw [if_pos (by decide), if_pos (by simp only [List.length_cons]; omega)]
  rfl
theorem at3 : atI (a :: b :: c :: d :: l) 3 = some d := by
  unfold atI ixN
  rw [if_pos (by decide), if_pos (by simp only [List.length_cons]; omega)]
  rfl
theorem at4 : atI (a :: b :: c :: d :: e :: l) 4 = some e := by
  unfold atI ixN
  rw [if_pos (by decide), if_pos (by simp only [List.length_cons]; omega)]
  rfl
theorem atI_nat {i : Nat} : atI l (i : Int) = l[i]? := by
  unfold atI ixN
  rw [if_pos (by omega)]
  split
  · simp
  · rename_i h
    rw [List.getElem?_eq_none (by omega)] <;> rfl
theorem atI_of {i : Int} (h : 0 ≤ i) : atI l i = l[i.toNat]? := by
  obtain ⟨n, rfl⟩ := Int.eq_ofNat_of_zero_le h
  exact atI_nat
theorem ix_of {n : Nat} {i : Int} (h : 0 ≤ i) (h2 : i < n) : ixN n i = some i.toNat := by
  unfold ixN
  rw [if_pos h, if_pos h2]
end
theorem ix5_1 : ixN 5 1 = some 1 := rfl
theorem ix5_2 : ixN 5 2 = some 2 := rfl
theorem ix5_3 : ixN 5 3 = some 3 := rfl
theorem ix5_4 : ixN 5 4 = some 4 := rfl
theorem bools_map {α : Type} {f : α → Bool} {l : List α} : bools? (l.map fun a => .bl (f a)) = some (l.map f) := by
  induction l with
  | nil => rfl
  | cons a l ih => simp [bools?, ih]
theorem ints_map {α : Type} {f : α → Int} {l : List α} : ints? (l.map fun a => .int (f a)) = some (l.map f) := by
  induction l with
  | nil => rfl
  | cons a l ih => simp [ints?, ih]
theorem strs_map {α : Type} {f : α → List Nat} {l : List α} : strs? (l.map fun a => .str (f a)) = some (l.map f) := by
  induction l with
  | nil => rfl
  | cons a l ih => simp [strs?, ih]
theorem cut_from {xs : List D} {k : Int} (h : 0 ≤ k) : cutD xs (some k) none = xs.drop k.toNat := by
  unfold cutD
  simp only [HT.sIx, if_neg (show ¬ k < 0 by omega)]
  rw [List.take_of_length_le (by rw [List.length_drop]; omega)]
  by_cases hk : k.toNat ≤ xs.length
  · rw [Nat.min_eq_left hk]
  · rw [Nat.min_eq_right (by omega), List.drop_length, List.drop_of_length_le (by omega)]
theorem cut_to {xs : List D} {k : Int} (h : 0 ≤ k) : cutD xs none (some k) = xs.take k.toNat := by
  unfold cutD
  simp only [HT.sIx, if_neg (show ¬ k < 0 by omega), List.drop_zero, Nat.sub_zero]
  by_cases hk : k.toNat ≤ xs.length
  · rw [Nat.min_eq_left hk]
  · rw [Nat.min_eq_right (by omega), List.take_of_length_le (Nat.le_refl _), List.take_of_length_le (by omega)]
theorem cutN_from {xs : List Nat} {k : Int} (h : 0 ≤ k) : cutN xs (some k) none = xs.drop k.toNat := by
  unfold cutN
  simp only [HT.sIx, if_neg (show ¬ k < 0 by omega)]
  rw [List.take_of_length_le (by rw [List.length_drop]; omega)]
  by_cases hk : k.toNat ≤ xs.length
  · rw [Nat.min_eq_left hk]
  · rw [Nat.min_eq_right (by omega), List.drop_length, List.drop_of_length_le (by omega)]
theorem SS_cut {T : Tb} {s : SE} {env : EnvD} {W : Wd} {k : Kt} {P : EnvD → Wd → Prop} (h : SS T s env W ⟨⟨P, .mk⟩, k.rt, k.bk, k.ct, k.xc⟩) (h2 : ∀ e W, P e W → k.nx e W) : SS T s env W k := by
  rw [sSS] at h ⊢
  exact RS_mono h h2 (fun _ _ x => x) (fun _ _ x => x) (fun _ _ x => x) (fun _ _ _ x => x)
theorem log_lt {n k : Nat} (h : n < 2 ^ k) : n.log2 < k + 1 := by
  by_cases h0 : n = 0
  · subst h0; simp
  · have := (Nat.log2_lt h0).mpr h
    omega
theorem wide_of {i j : Int} (a b : Nat) (h1 : i.natAbs < 2 ^ a) (h2 : j.natAbs < 2 ^ b) (h : a + b < 900000 := by decide) : wideMul i j = true := by
  unfold wideMul
  have a := log_lt h1
  have b := log_lt h2
  exact Nat.ble_eq_true_of_le (by omega)
theorem fPow_of {i j : Int} (h : 0 ≤ i) (h2 : i < 2 ^ 64) (h3 : 0 ≤ j) (h4 : j ≤ 1000000) : fPow i j = some (i ^ j.toNat) := by
  unfold fPow
  have e : Nat.blt i.natAbs (2 ^ 64) = true := Nat.ble_eq_true_of_le (by omega)
  rw [e]
  simp [h3, h4]
/-- signs of a text -/
def okS (x : List Nat) : Bool := x.all fun c => decide (c < 1114112)
theorem eqv_str {W : Wd} {x y : List Nat} : eqvD W (.str x) (.str y) = if okS x && okS y then some (decide (x = y)) else none := by
  have e : ∀ z : List Nat, SeqAt.shaped (.str ⟨z.toArray⟩) = okS z := fun z => by
    unfold SeqAt.shaped PyData.canLay0 PyData.strOk
    simp [okS, PyData.depth]
  unfold eqvD
  simp only [look, toPy, e]
  have e2 : PyData.eqv (.str ⟨x.toArray⟩) (.str ⟨y.toArray⟩) = decide (x = y) := by
    show ((⟨x.toArray⟩ : Str) == ⟨y.toArray⟩) = decide (x = y)
    by_cases h : x = y
    · subst h; simp
    · have h2 : (⟨x.toArray⟩ : Str) ≠ ⟨y.toArray⟩ := fun q => h (by simpa using congrArg (fun s : Str => s.cps.toList) q)
      rw [beq_eq_false_iff_ne.mpr h2, decide_eq_false h]
  rw [e2]
theorem cEq_str {W : Wd} {x y : List Nat} {Q : Cn D} {X : Cx} : RR (pCmp .Eq W (.str x) (.str y)) Q X ↔ (okS x && okS y) = true ∧ Q (.bl (decide (x = y))) W := by
  rw [cEq_D, eqv_str]
  cases okS x && okS y <;> simp [BO]
theorem cNe_str {W : Wd} {x y : List Nat} {Q : Cn D} {X : Cx} : RR (pCmp .NotEq W (.str x) (.str y)) Q X ↔ (okS x && okS y) = true ∧ Q (.bl (!decide (x = y))) W := by
  rw [cNe_D, eqv_str]
  cases okS x && okS y <;> simp [BO]
theorem eqF_str {x y : List Nat} : eqF (.str x) (.str y) = decide (x = y) := by
  show (x == y) = decide (x = y)
  by_cases h : x = y <;> simp [h]
theorem eqF_int {x y : Int} : eqF (.int x) (.int y) = decide (x = y) := by
  show (x == y) = decide (x = y)
  by_cases h : x = y <;> simp [h]
theorem cEq_bl {W : Wd} {a b : Bool} {Q : Cn D} {X : Cx} : RR (pCmp .Eq W (.bl a) (.bl b)) Q X ↔ Q (.bl (a == b)) W := by
  have e : eqvD W (.bl a) (.bl b) = some (a == b) := by
    unfold eqvD
    simp only [look, toPy]
    rfl
  rw [cEq_D, e]
  exact Iff.rfl
theorem cNe_bl {W : Wd} {a b : Bool} {Q : Cn D} {X : Cx} : RR (pCmp .NotEq W (.bl a) (.bl b)) Q X ↔ Q (.bl (!(a == b))) W := by
  have e : eqvD W (.bl a) (.bl b) = some (a == b) := by
    unfold eqvD
    simp only [look, toPy]
    rfl
  rw [cNe_D, e]
  exact Iff.rfl
theorem comp_pure {α : Type} {tg : IG} {cond : EvF Bool} {elt : EvF D} {env : EnvD} {X : Cx} {f : α → D} {g : α → D} {p : α → Bool} {W : Wd} {Q : Cn (List D)} {l : List α}
    (h : ∀ a ∈ l, BO (bindG W tg (g a) env) ⟨fun env1 => RR (cond env1 W) ⟨fun v W1 => W1 = W ∧ v = p a ∧ (v = true → RR (elt env1 W) ⟨fun y W2 => W2 = W ∧ y = f a, .mk⟩ noX), .mk⟩ noX, .mk⟩)
    (q : Q ((l.filter p).map f) W) : RR (compL tg cond elt env (l.map g) W) Q X := by
  refine comp_ok (fun rest acc W1 => W1 = W ∧ ∃ a b, l = a ++ b ∧ rest = b.map g ∧ acc = (a.filter p).map f) (acc := []) ⟨rfl, [], l, rfl, rfl, rfl⟩ (fun x rest acc W1 hI => ?_) fun ys W1 hI => ?_
  · obtain ⟨rfl, a, b, hl, hr, ha⟩ := hI
    cases b with
    | nil => cases hr
    | cons c b =>
      obtain ⟨rfl, rfl⟩ := List.cons.inj hr
      have z := h c (by rw [hl]; simp)
      cases qb : bindG W1 tg (g c) env with
      | none => rw [qb] at z; exact z.elim
      | some env1 =>
        rw [qb] at z
        refine RR_mono (show RR (cond env1 W1) _ _ from z) (fun v W2 hv => ?_) fun _ _ _ x => x
        obtain ⟨rfl, e2, e3⟩ := hv
        refine ⟨fun ht => RR_mono (e3 ht) (fun y W3 hy => ?_) fun _ _ _ x => x, fun ht => ?_⟩
        · obtain ⟨rfl, rfl⟩ := hy
          refine ⟨rfl, a ++ [c], b, by rw [hl, List.append_assoc]; rfl, rfl, ?_⟩
          subst ha
          rw [List.filter_append, List.map_append, List.filter_cons, if_pos (by rw [← e2]; exact ht)]
          rfl
        · refine ⟨rfl, a ++ [c], b, by rw [hl, List.append_assoc]; rfl, rfl, ?_⟩
          subst ha
          rw [List.filter_append, List.map_append, List.filter_cons, if_neg (by rw [← e2, ht]; decide)]
          simp
  · obtain ⟨rfl, a, b, hl, hr, ha⟩ := hI
    have hb : b = [] := by cases b with | nil => rfl | cons c b => cases hr
    subst hb
    rw [List.append_nil] at hl
    subst hl
    rw [List.nil_append] at ha
    rw [ha]
    exact q
end VI
-- K1
set_option Elab.async false
set_option linter.all false
set_option maxRecDepth 100000
set_option maxHeartbeats 0
namespace VI
open PySem PySem.Spec PyProof.Rows L2
namespace Kx
abbrev topS (i : Nat) : Stmt := PySem.Challenge.pw_calmtaps_k62_tables_of_boxes.main.body.getD i (.Pass ⟨0, 0, 0, 0⟩)
def memS (i j : Nat) : Stmt := match topS i with
  | .ClassDef (body := b) .. => b.getD j (.Pass ⟨0, 0, 0, 0⟩)
  | s => s
def nm : Nm := { gln := ["GREATEST", "MOST_TAPS", "KINDS", "RATES"], free := ["bool", "len", "all", "any", "sum", "max", "min", "abs", "str", "int", "list", "tuple", "range", "enumerate", "zip", "isinstance"], fnn := ["_law_same", "columns", "_law_chain", "_law_is_fast", "_law_text_of", "_law_any_boxes", "_law_bag", "box_text", "_law_draw", "_law_box_span", "_law_any_taps", "_law_slow_box", "_law_of", "_law_any_side", "_law_rates", "is_integer", "is_number", "are_taps", "numbers_text", "span_of", "is_fast_place", "check_rates", "is_box", "law"], cln := ["Chain"], mnm := ["walk", "is_fast", "with_box", "own_boxes", "SPAN", "MOST", "check_at"], kwn := [("columns", "chain")] }
abbrev n_law : List PySem.Str := ["script", "bag", "turn", "boxes", "due", "at", "made", "text", "word", "pace"]
def s_law : SE :=
 .seq (.set (.nm 1) (.call 6 (.cons (.var 0) (.nil))))
 (.seq (.forr (.nm 2) (.rn1 (.con (.int 4)))
 (.seq (.set (.nm 3) (.call 5 (.cons (.var 1) (.cons (.con (.int 1)) (.nil)))))
 (.seq (.set (.nm 4) (.mls (.nil)))
 (.seq (.forr (.nm 5) (.rn1 (.blt .len (.cons (.var 3) (.nil))))
 (.seq (.set (.nm 7) (.call 4 (.cons (.sub (.var 3) (.var 5)) (.nil))))
 (.seq (.set (.nm 8) (.sub (.sub (.var 3) (.var 5)) (.con (.int 0))))
 (.seq (.set (.nm 9) (.ife (.and (.cmp .Eq (.var 8) (.con (.str [116, 97, 112, 115]))) (.one (.call 3 (.cons (.var 3) (.cons (.var 5) (.nil)))))) (.con (.str [102, 97, 115, 116])) (.con (.str [115, 108, 111, 119]))))
 (.seq (.ex (.app (.var 4) (.bin .Add (.bin .Add (.bin .Add (.bin .Add (.bin .Add (.bin .Add (.bin .Add (.bin .Add (.con (.str [32, 32])) (.blt .str (.cons (.var 5) (.nil)))) (.con (.str [32]))) (.var 8)) (.bin .Mult (.con (.str [32])) (.bin .Sub (.con (.int 7)) (.blt .len (.cons (.var 8) (.nil)))))) (.con (.str [32]))) (.var 9)) (.con (.str [32]))) (.sli (.var 7) (.bin .Add (.blt .len (.cons (.var 8) (.nil))) (.con (.int 1))) (.non)))))
 (.nil))))))
 (.seq (.set (.nm 6) (.call 2 (.cons (.var 3) (.nil))))
 (.seq (.gho 4 (.ite (.not (.call 0 (.cons (.lst (.cons (.call 1 (.cons (.var 6) (.nil))) (.cons (.calK 0 (.var 6) "") (.nil)))) (.cons (.lst (.cons (.var 4) (.cons (.var 4) (.nil)))) (.nil)))))
 (.seq (.ret (.con (.bl false)))
 (.nil))
 (.nil)))
 (.nil)))))))
 (.seq (.ret (.call 0 (.cons (.call 1 (.cons (.make 0 true (.cons (.tup (.cons (.con (.str [116, 97, 112, 115])) (.cons (.con (.int 1)) (.cons (.neg (.con (.int 2))) (.nil))))) (.cons (.tup (.cons (.con (.str [116, 104, 105, 110])) (.nil))) (.nil)))) (.nil))) (.cons (.lst (.cons (.con (.str [32, 32, 48, 32, 116, 97, 112, 115, 32, 32, 32, 32, 102, 97, 115, 116, 32, 49, 32, 45, 50])) (.cons (.con (.str [32, 32, 49, 32, 116, 104, 105, 110, 32, 32, 32, 32, 115, 108, 111, 119, 32])) (.nil)))) (.nil)))))
 (.nil)))
theorem c_law : chkSs nm n_law s_law (defScope (topS 47)) (defBody (topS 47)) = true := by kernel_rfl
abbrev n_columns : List PySem.Str := ["chain", "found", "at", "box", "pace"]
def s_columns : SE :=
 .seq (.set (.nm 1) (.mls (.nil)))
 (.seq (.forw (.tup (.cons (.nm 2) (.cons (.nm 3) (.nil)))) 0 (.var 0)
 (.seq (.set (.nm 4) (.ife (.meth 1 (.var 0) (.cons (.var 2) (.nil))) (.con (.str [102, 97, 115, 116])) (.con (.str [115, 108, 111, 119]))))
 (.seq (.ex (.app (.var 1) (.fsp (.fpc (.fmt .rgt (.var 2)) (.fpc (.con (.str [32])) (.fpc (.fmt .lft (.sub (.var 3) (.con (.int 0)))) (.fpc (.con (.str [32])) (.fpc (.fmt .val (.var 4)) (.fpc (.con (.str [32])) (.fpc (.fmt .val (.sli (.call 7 (.cons (.var 3) (.nil))) (.bin .Add (.blt .len (.cons (.sub (.var 3) (.con (.int 0))) (.nil))) (.con (.int 1))) (.non))) (.fpn)))))))))))
 (.nil))))
 (.seq (.ret (.frz (.var 1)))
 (.nil)))
theorem c_columns : chkSs nm n_columns s_columns (defScope (topS 32)) (defBody (topS 32)) = true := by kernel_rfl
abbrev n__law_any_boxes : List PySem.Str := ["bag", "gates", "sorts", "rates", "found", "room", "k", "fast", "turn", "box"]
def s__law_any_boxes : SE :=
 .seq (.set (.nm 2) (.lst (.cons (.lst (.nil)) (.cons (.lst (.cons (.con (.str [116, 104, 105, 110])) (.nil))) (.cons (.lst (.cons (.con (.str [115, 116, 114, 101, 116, 99, 104])) (.nil))) (.cons (.lst (.cons (.con (.str [116, 104, 105, 110])) (.cons (.con (.str [115, 116, 114, 101, 116, 99, 104])) (.nil)))) (.cons (.lst (.cons (.con (.str [115, 116, 114, 101, 116, 99, 104])) (.cons (.con (.str [116, 104, 105, 110])) (.nil)))) (.cons (.lst (.cons (.con (.str [116, 104, 105, 110])) (.cons (.con (.str [115, 116, 114, 101, 116, 99, 104])) (.cons (.con (.str [116, 104, 105, 110])) (.nil))))) (.cons (.lst (.cons (.con (.str [115, 116, 114, 101, 116, 99, 104])) (.cons (.con (.str [116, 104, 105, 110])) (.cons (.con (.str [115, 116, 114, 101, 116, 99, 104])) (.cons (.con (.str [116, 104, 105, 110])) (.nil)))))) (.cons (.lst (.cons (.con (.str [116, 104, 105, 110])) (.cons (.con (.str [115, 116, 114, 101, 116, 99, 104])) (.cons (.con (.str [116, 104, 105, 110])) (.cons (.con (.str [115, 116, 114, 101, 116, 99, 104])) (.nil)))))) (.nil)))))))))))
 (.seq (.par [3, 4, 5] (.cons (.call 12 (.cons (.var 0) (.cons (.var 2) (.nil)))) (.cons (.mls (.nil)) (.cons (.con (.int 12)) (.nil)))))
 (.seq (.forr (.nm 6) (.rn1 (.bin .Add (.blt .len (.cons (.var 3) (.nil))) (.con (.int 1))))
 (.seq (.set (.nm 7) (.or (.cmp .Eq (.sli (.var 3) (.var 6) (.bin .Add (.var 6) (.con (.int 1)))) (.lst (.cons (.con (.str [116, 104, 105, 110])) (.nil)))) (.one (.and (.cmp .Eq (.var 6) (.blt .len (.cons (.var 3) (.nil)))) (.one (.cmp .Eq (.sli (.var 3) (.bin .Sub (.var 6) (.con (.int 1))) (.var 6)) (.lst (.cons (.con (.str [115, 116, 114, 101, 116, 99, 104])) (.nil)))))))))
 (.seq (.forr (.nm 8) (.rn1 (.call 8 (.cons (.var 0) (.cons (.ife (.cmp .Lt (.blt .len (.cons (.var 3) (.nil))) (.con (.int 2))) (.con (.int 3)) (.con (.int 2))) (.nil)))))
 (.seq (.set (.nm 9) (.ife (.or (.var 7) (.one (.cmp .Eq (.var 1) (.con (.int 0))))) (.call 10 (.cons (.var 0) (.nil))) (.call 11 (.cons (.var 0) (.nil)))))
 (.seq (.ite (.cmp .LtE (.call 9 (.cons (.var 9) (.nil))) (.var 5))
 (.seq (.par [4, 5] (.cons (.adm (.var 4) (.lst (.cons (.var 9) (.nil)))) (.cons (.bin .Sub (.var 5) (.call 9 (.cons (.var 9) (.nil)))) (.nil))))
 (.nil))
 (.nil))
 (.nil))))
 (.seq (.ite (.cmp .Lt (.var 6) (.blt .len (.cons (.var 3) (.nil))))
 (.seq (.ex (.app (.var 4) (.tup (.cons (.sub (.var 3) (.var 6)) (.nil)))))
 (.nil))
 (.nil))
 (.nil)))))
 (.seq (.ret (.frz (.var 4)))
 (.nil))))
theorem c__law_any_boxes : chkSs nm n__law_any_boxes s__law_any_boxes (defScope (topS 44)) (defBody (topS 44)) = true := by kernel_rfl
abbrev n__law_same : List PySem.Str := ["found", "due", "one", "two"]
def s__law_same : SE :=
 .seq (.ite (.or (.cmp .Is (.var 1) (.con .non)) (.one (.cmp .Is (.var 0) (.con .non))))
 (.seq (.ret (.and (.cmp .Is (.var 1) (.con .non)) (.one (.cmp .Is (.var 0) (.con .non)))))
 (.nil))
 (.nil))
 (.seq (.ite (.isi (.var 1) [.b "list", .b "tuple"])
 (.seq (.ite (.or (.cmp .NotEq (.isi (.var 0) [.b "list"]) (.isi (.var 1) [.b "list"])) (.one (.cmp .NotEq (.isi (.var 0) [.b "tuple"]) (.isi (.var 1) [.b "tuple"]))))
 (.seq (.ret (.con (.bl false)))
 (.nil))
 (.nil))
 (.seq (.ret (.and (.cmp .Eq (.blt .len (.cons (.var 0) (.nil))) (.blt .len (.cons (.var 1) (.nil)))) (.one (.blt .all (.cons (.comp (.call 0 (.cons (.var 2) (.cons (.var 3) (.nil)))) (.tup (.cons (.nm 2) (.cons (.nm 3) (.nil)))) (.zip (.var 0) (.var 1)) (.con (.bl true)) [2, 3]) (.nil))))))
 (.nil)))
 (.nil))
 (.seq (.ite (.or (.cmp .NotEq (.isi (.var 0) [.b "bool"]) (.isi (.var 1) [.b "bool"])) (.one (.cmp .NotEq (.isi (.var 0) [.b "int"]) (.isi (.var 1) [.b "int"]))))
 (.seq (.ret (.con (.bl false)))
 (.nil))
 (.nil))
 (.seq (.ret (.and (.cmp .Eq (.isi (.var 0) [.b "str"]) (.isi (.var 1) [.b "str"])) (.one (.cmp .Eq (.var 0) (.var 1)))))
 (.nil))))
theorem c__law_same : chkSs nm n__law_same s__law_same (defScope (topS 37)) (defBody (topS 37)) = true := by kernel_rfl
abbrev n__law_bag : List PySem.Str := ["script", "mixed", "cell"]
def s__law_bag : SE :=
 .seq (.set (.nm 1) (.con (.int 10041)))
 (.seq (.forr (.nm 2) (.sli (.var 0) (.non) (.con (.int 63)))
 (.seq (.set (.nm 1) (.bin .Mod (.blt .int (.cons (.bin .Add (.bin .Add (.bin .Mult (.var 1) (.con (.int 47533))) (.bin .Mod (.blt .int (.cons (.var 2) (.nil))) (.con (.int 2147480197)))) (.con (.int 23))) (.nil))) (.con (.int 2147483563))))
 (.nil)))
 (.seq (.ret (.mls (.cons (.blt .list (.cons (.sli (.var 0) (.non) (.con (.int 63))) (.nil))) (.cons (.con (.int 0)) (.cons (.con (.int 0)) (.cons (.var 1) (.cons (.con (.int 0)) (.nil))))))))
 (.nil)))
theorem c__law_bag : chkSs nm n__law_bag s__law_bag (defScope (topS 34)) (defBody (topS 34)) = true := by kernel_rfl
abbrev n__law_draw : List PySem.Str := ["bag", "many", "seed", "cell", "digit"]
def s__law_draw : SE :=
 .seq (.sti (.var 0) (.con (.int 4)) (.bin .Add (.sub (.var 0) (.con (.int 4))) (.con (.int 1))))
 (.seq (.ite (.and (.cmp .Eq (.sub (.var 0) (.con (.int 2))) (.con (.int 0))) (.one (.cmp .Lt (.sub (.var 0) (.con (.int 1))) (.blt .len (.cons (.sub (.var 0) (.con (.int 0))) (.nil))))))
 (.seq (.set (.nm 3) (.sub (.sub (.var 0) (.con (.int 0))) (.sub (.var 0) (.con (.int 1)))))
 (.seq (.sti (.var 0) (.con (.int 1)) (.bin .Add (.sub (.var 0) (.con (.int 1))) (.con (.int 1))))
 (.seq (.ite (.cmp .GtE (.var 3) (.bin .Pow (.con (.int 10)) (.con (.int 18))))
 (.seq (.sti (.var 0) (.con (.int 2)) (.var 3))
 (.nil))
 (.seq (.sti (.var 0) (.con (.int 3)) (.bin .Mod (.blt .int (.cons (.bin .Add (.bin .Add (.bin .Mult (.sub (.var 0) (.con (.int 3))) (.con (.int 39119))) (.bin .Mult (.bin .Mod (.blt .int (.cons (.var 3) (.nil))) (.con (.int 2147480197))) (.con (.int 839)))) (.con (.int 53))) (.nil))) (.con (.int 2147483579))))
 (.nil)))
 (.nil))))
 (.nil))
 (.seq (.ite (.cmp .Gt (.sub (.var 0) (.con (.int 2))) (.con (.int 0)))
 (.seq (.set (.nm 4) (.bin .Mod (.blt .int (.cons (.sub (.var 0) (.con (.int 2))) (.nil))) (.var 1)))
 (.seq (.sti (.var 0) (.con (.int 2)) (.bin .FloorDiv (.sub (.var 0) (.con (.int 2))) (.var 1)))
 (.seq (.ret (.var 4))
 (.nil))))
 (.nil))
 (.seq (.set (.nm 2) (.blt .int (.cons (.sub (.var 0) (.con (.int 3))) (.nil))))
 (.seq (.sti (.var 0) (.con (.int 3)) (.bin .Mod (.blt .int (.cons (.bin .Add (.bin .Add (.bin .Add (.bin .Pow (.var 2) (.con (.int 3))) (.bin .Mult (.var 2) (.con (.int 28657)))) (.bin .Mult (.sub (.var 0) (.con (.int 4))) (.con (.int 1299721)))) (.con (.int 60013))) (.nil))) (.con (.int 2147483579))))
 (.seq (.ret (.bin .Mod (.blt .int (.cons (.bin .Add (.bin .FloorDiv (.sub (.var 0) (.con (.int 3))) (.con (.int 73))) (.bin .Mult (.bin .Mod (.blt .int (.cons (.sub (.var 0) (.con (.int 3))) (.nil))) (.con (.int 7901))) (.con (.int 59)))) (.nil))) (.var 1)))
 (.nil))))))
theorem c__law_draw : chkSs nm n__law_draw s__law_draw (defScope (topS 35)) (defBody (topS 35)) = true := by kernel_rfl
abbrev n__law_of : List PySem.Str := ["bag", "some"]
def s__law_of : SE :=
 .seq (.ret (.sub (.var 1) (.call 8 (.cons (.var 0) (.cons (.blt .len (.cons (.var 1) (.nil))) (.nil))))))
 (.nil)
theorem c__law_of : chkSs nm n__law_of s__law_of (defScope (topS 36)) (defBody (topS 36)) = true := by kernel_rfl
abbrev n__law_chain : List PySem.Str := ["boxes", "found", "box"]
def s__law_chain : SE :=
 .seq (.set (.nm 1) (.make 0 true (.nil)))
 (.seq (.forr (.nm 2) (.var 0)
 (.seq (.set (.nm 1) (.meth 2 (.var 1) (.cons (.lni (.var 1)) (.cons (.var 2) (.nil)))))
 (.nil)))
 (.seq (.ret (.var 1))
 (.nil)))
theorem c__law_chain : chkSs nm n__law_chain s__law_chain (defScope (topS 38)) (defBody (topS 38)) = true := by kernel_rfl
abbrev n__law_text_of : List PySem.Str := ["box", "number"]
def s__law_text_of : SE :=
 .seq (.ite (.cmp .Eq (.sub (.var 0) (.con (.int 0))) (.con (.str [116, 97, 112, 115])))
 (.seq (.ret (.join (.con (.str [32])) (.bin .Add (.lst (.cons (.con (.str [116, 97, 112, 115])) (.nil))) (.comp (.blt .str (.cons (.var 1) (.nil))) (.nm 1) (.sli (.var 0) (.con (.int 1)) (.non)) (.con (.bl true)) [1]))))
 (.nil))
 (.nil))
 (.seq (.ite (.cmp .Eq (.sub (.var 0) (.con (.int 0))) (.con (.str [98, 108, 101, 110, 100])))
 (.seq (.ret (.join (.con (.str [32])) (.bin .Add (.bin .Add (.bin .Add (.lst (.cons (.con (.str [98, 108, 101, 110, 100])) (.nil))) (.comp (.blt .str (.cons (.var 1) (.nil))) (.nm 1) (.sub (.var 0) (.con (.int 1))) (.con (.bl true)) [1])) (.lst (.cons (.con (.str [44])) (.nil)))) (.comp (.blt .str (.cons (.var 1) (.nil))) (.nm 1) (.sub (.var 0) (.con (.int 2))) (.con (.bl true)) [1]))))
 (.nil))
 (.nil))
 (.seq (.ret (.sub (.var 0) (.con (.int 0))))
 (.nil)))
theorem c__law_text_of : chkSs nm n__law_text_of s__law_text_of (defScope (topS 39)) (defBody (topS 39)) = true := by kernel_rfl
abbrev n__law_any_taps : List PySem.Str := ["bag", "size", "found", "k", "number"]
def s__law_any_taps : SE :=
 .seq (.set (.nm 1) (.ife (.cmp .Eq (.call 8 (.cons (.var 0) (.cons (.con (.int 4)) (.nil)))) (.con (.int 0))) (.call 12 (.cons (.var 0) (.cons (.lst (.cons (.con (.int 1)) (.cons (.con (.int 2)) (.cons (.con (.int 3)) (.cons (.con (.int 4)) (.cons (.con (.int 9)) (.nil))))))) (.nil)))) (.bin .Add (.con (.int 1)) (.call 8 (.cons (.var 0) (.cons (.con (.int 3)) (.nil)))))))
 (.seq (.sct 2 true (.call 12 (.cons (.var 0) (.cons (.lst (.cons (.bin .Sub (.call 8 (.cons (.var 0) (.cons (.con (.int 199)) (.nil)))) (.con (.int 99))) (.cons (.bin .Sub (.call 8 (.cons (.var 0) (.cons (.con (.int 7)) (.nil)))) (.con (.int 3))) (.cons (.con (.int 0)) (.cons (.con (.int 99)) (.cons (.neg (.con (.int 99))) (.nil))))))) (.nil)))) (.nm 3) (.rn1 (.var 1)) (.con (.bl true)) [3])
 (.seq (.ret (.bin .Add (.tup (.cons (.con (.str [116, 97, 112, 115])) (.nil))) (.blt .tuple (.cons (.ife (.blt .any (.cons (.comp (.cmp .NotEq (.var 4) (.con (.int 0))) (.nm 4) (.var 2) (.con (.bl true)) [4]) (.nil))) (.var 2) (.bin .Add (.sli (.var 2) (.con (.int 1)) (.non)) (.lst (.cons (.bin .Add (.con (.int 1)) (.call 8 (.cons (.var 0) (.cons (.con (.int 9)) (.nil))))) (.nil))))) (.nil)))))
 (.nil)))
theorem c__law_any_taps : chkSs nm n__law_any_taps s__law_any_taps (defScope (topS 40)) (defBody (topS 40)) = true := by kernel_rfl
abbrev n__law_any_side : List PySem.Str := ["bag", "found", "k", "number"]
def s__law_any_side : SE :=
 .seq (.sct 1 true (.call 12 (.cons (.var 0) (.cons (.lst (.cons (.call 8 (.cons (.var 0) (.cons (.con (.int 100)) (.nil)))) (.cons (.call 8 (.cons (.var 0) (.cons (.con (.int 4)) (.nil)))) (.cons (.con (.int 0)) (.nil))))) (.nil)))) (.nm 2) (.rn1 (.bin .Add (.con (.int 1)) (.call 8 (.cons (.var 0) (.cons (.con (.int 3)) (.nil)))))) (.con (.bl true)) [2])
 (.seq (.ret (.blt .tuple (.cons (.ife (.blt .any (.cons (.comp (.cmp .NotEq (.var 3) (.con (.int 0))) (.nm 3) (.var 1) (.con (.bl true)) [3]) (.nil))) (.var 1) (.bin .Add (.sli (.var 1) (.con (.int 1)) (.non)) (.lst (.cons (.bin .Add (.con (.int 1)) (.call 8 (.cons (.var 0) (.cons (.con (.int 9)) (.nil))))) (.nil))))) (.nil))))
 (.nil))
theorem c__law_any_side : chkSs nm n__law_any_side s__law_any_side (defScope (topS 41)) (defBody (topS 41)) = true := by kernel_rfl
abbrev n__law_slow_box : List PySem.Str := ["bag", "way"]
def s__law_slow_box : SE :=
 .seq (.set (.nm 1) (.call 8 (.cons (.var 0) (.cons (.con (.int 4)) (.nil)))))
 (.seq (.ite (.cmp .Lt (.var 1) (.con (.int 2)))
 (.seq (.ret (.call 10 (.cons (.var 0) (.nil))))
 (.nil))
 (.nil))
 (.seq (.ret (.ife (.cmp .Eq (.var 1) (.con (.int 2))) (.tup (.cons (.con (.str [103, 97, 116, 101])) (.nil))) (.tup (.cons (.con (.str [98, 108, 101, 110, 100])) (.cons (.call 13 (.cons (.var 0) (.nil))) (.cons (.call 13 (.cons (.var 0) (.nil))) (.nil)))))))
 (.nil)))
theorem c__law_slow_box : chkSs nm n__law_slow_box s__law_slow_box (defScope (topS 42)) (defBody (topS 42)) = true := by kernel_rfl
abbrev n__law_box_span : List PySem.Str := ["box"]
def s__law_box_span : SE :=
 .seq (.ite (.cmp .Eq (.sub (.var 0) (.con (.int 0))) (.con (.str [116, 97, 112, 115])))
 (.seq (.ret (.bin .Sub (.blt .len (.cons (.var 0) (.nil))) (.con (.int 2))))
 (.nil))
 (.nil))
 (.seq (.ret (.ife (.cmp .Eq (.sub (.var 0) (.con (.int 0))) (.con (.str [98, 108, 101, 110, 100]))) (.bin .Sub (.blt .max2 (.cons (.blt .len (.cons (.sub (.var 0) (.con (.int 1))) (.nil))) (.cons (.blt .len (.cons (.sub (.var 0) (.con (.int 2))) (.nil))) (.nil)))) (.con (.int 1))) (.con (.int 0))))
 (.nil))
theorem c__law_box_span : chkSs nm n__law_box_span s__law_box_span (defScope (topS 43)) (defBody (topS 43)) = true := by kernel_rfl
abbrev n__law_rates : List PySem.Str := ["boxes", "box"]
def s__law_rates : SE :=
 .seq (.ret (.comp (.sub (.var 1) (.con (.int 0))) (.nm 1) (.var 0) (.cmp .In (.sub (.var 1) (.con (.int 0))) (.tup (.cons (.con (.str [116, 104, 105, 110])) (.cons (.con (.str [115, 116, 114, 101, 116, 99, 104])) (.nil))))) [1]))
 (.nil)
theorem c__law_rates : chkSs nm n__law_rates s__law_rates (defScope (topS 45)) (defBody (topS 45)) = true := by kernel_rfl
abbrev n__law_is_fast : List PySem.Str := ["boxes", "at", "late"]
def s__law_is_fast : SE :=
 .seq (.set (.nm 2) (.call 14 (.cons (.sli (.var 0) (.bin .Add (.var 1) (.con (.int 1))) (.non)) (.nil))))
 (.seq (.ite (.cmp .NotEq (.var 2) (.lst (.nil)))
 (.seq (.ret (.cmp .Eq (.sub (.var 2) (.con (.int 0))) (.con (.str [116, 104, 105, 110]))))
 (.nil))
 (.nil))
 (.seq (.ret (.cmp .Eq (.sli (.call 14 (.cons (.sli (.var 0) (.non) (.var 1)) (.nil))) (.neg (.con (.int 1))) (.non)) (.lst (.cons (.con (.str [115, 116, 114, 101, 116, 99, 104])) (.nil)))))
 (.nil)))
theorem c__law_is_fast : chkSs nm n__law_is_fast s__law_is_fast (defScope (topS 46)) (defBody (topS 46)) = true := by kernel_rfl
abbrev n_is_integer : List PySem.Str := ["value"]
def s_is_integer : SE :=
 .seq (.ret (.and (.isi (.var 0) [.b "int"]) (.one (.not (.isi (.var 0) [.b "bool"])))))
 (.nil)
theorem c_is_integer : chkSs nm n_is_integer s_is_integer (defScope (topS 11)) (defBody (topS 11)) = true := by kernel_rfl
abbrev n_is_number : List PySem.Str := ["value", "least", "most"]
def s_is_number : SE :=
 .seq (.ret (.and (.call 15 (.cons (.var 0) (.nil))) (.one (.chn .LtE .LtE (.var 1) (.var 0) (.var 2)))))
 (.nil)
theorem c_is_number : chkSs nm n_is_number s_is_number (defScope (topS 12)) (defBody (topS 12)) = true := by kernel_rfl
abbrev n_are_taps : List PySem.Str := ["numbers", "least", "item"]
def s_are_taps : SE :=
 .seq (.ite (.or (.not (.chn .LtE .LtE (.con (.int 1)) (.blt .len (.cons (.var 0) (.nil))) (.glo 1))) (.one (.not (.blt .all (.cons (.comp (.call 16 (.cons (.var 2) (.cons (.var 1) (.cons (.glo 0) (.nil))))) (.nm 2) (.var 0) (.con (.bl true)) [2]) (.nil))))))
 (.seq (.ret (.con (.bl false)))
 (.nil))
 (.nil))
 (.seq (.ret (.blt .any (.cons (.comp (.cmp .NotEq (.var 2) (.con (.int 0))) (.nm 2) (.var 0) (.con (.bl true)) [2]) (.nil))))
 (.nil))
theorem c_are_taps : chkSs nm n_are_taps s_are_taps (defScope (topS 17)) (defBody (topS 17)) = true := by kernel_rfl
abbrev n_is_box : List PySem.Str := ["value", "side"]
def s_is_box : SE :=
 .seq (.ite (.or (.not (.isi (.var 0) [.b "tuple"])) (.or (.cmp .Eq (.blt .len (.cons (.var 0) (.nil))) (.con (.int 0))) (.one (.cmp .NotIn (.sub (.var 0) (.con (.int 0))) (.glo 2)))))
 (.seq (.ret (.con (.bl false)))
 (.nil))
 (.nil))
 (.seq (.ite (.cmp .Eq (.sub (.var 0) (.con (.int 0))) (.con (.str [116, 97, 112, 115])))
 (.seq (.ret (.call 17 (.cons (.sli (.var 0) (.con (.int 1)) (.non)) (.cons (.neg (.glo 0)) (.nil)))))
 (.nil))
 (.nil))
 (.seq (.ite (.cmp .Eq (.sub (.var 0) (.con (.int 0))) (.con (.str [98, 108, 101, 110, 100])))
 (.seq (.ret (.and (.cmp .Eq (.blt .len (.cons (.var 0) (.nil))) (.con (.int 3))) (.one (.blt .all (.cons (.comp (.and (.isi (.var 1) [.b "tuple"]) (.one (.call 17 (.cons (.var 1) (.cons (.con (.int 0)) (.nil)))))) (.nm 1) (.sli (.var 0) (.con (.int 1)) (.non)) (.con (.bl true)) [1]) (.nil))))))
 (.nil))
 (.nil))
 (.seq (.ret (.cmp .Eq (.blt .len (.cons (.var 0) (.nil))) (.con (.int 1))))
 (.nil))))
theorem c_is_box : chkSs nm n_is_box s_is_box (defScope (topS 18)) (defBody (topS 18)) = true := by kernel_rfl
abbrev n_numbers_text : List PySem.Str := ["numbers", "number"]
def s_numbers_text : SE :=
 .seq (.ret (.join (.con (.str [32])) (.comp (.blt .str (.cons (.var 1) (.nil))) (.nm 1) (.var 0) (.con (.bl true)) [1])))
 (.nil)
theorem c_numbers_text : chkSs nm n_numbers_text s_numbers_text (defScope (topS 19)) (defBody (topS 19)) = true := by kernel_rfl
abbrev n_box_text : List PySem.Str := ["box"]
def s_box_text : SE :=
 .seq (.ite (.cmp .Eq (.sub (.var 0) (.con (.int 0))) (.con (.str [116, 97, 112, 115])))
 (.seq (.ret (.bin .Add (.con (.str [116, 97, 112, 115, 32])) (.call 18 (.cons (.sli (.var 0) (.con (.int 1)) (.non)) (.nil)))))
 (.nil))
 (.nil))
 (.seq (.ite (.cmp .Eq (.sub (.var 0) (.con (.int 0))) (.con (.str [98, 108, 101, 110, 100])))
 (.seq (.ret (.bin .Add (.bin .Add (.bin .Add (.con (.str [98, 108, 101, 110, 100, 32])) (.call 18 (.cons (.sub (.var 0) (.con (.int 1))) (.nil)))) (.con (.str [32, 44, 32]))) (.call 18 (.cons (.sub (.var 0) (.con (.int 2))) (.nil)))))
 (.nil))
 (.nil))
 (.seq (.ret (.sub (.var 0) (.con (.int 0))))
 (.nil)))
theorem c_box_text : chkSs nm n_box_text s_box_text (defScope (topS 20)) (defBody (topS 20)) = true := by kernel_rfl
abbrev n_is_fast_place : List PySem.Str := ["boxes", "at", "box"]
def s_is_fast_place : SE :=
 .seq (.forr (.nm 2) (.sli (.var 0) (.bin .Add (.var 1) (.con (.int 1))) (.non))
 (.seq (.ite (.cmp .In (.sub (.var 2) (.con (.int 0))) (.glo 3))
 (.seq (.ret (.cmp .Eq (.sub (.var 2) (.con (.int 0))) (.con (.str [116, 104, 105, 110]))))
 (.nil))
 (.nil))
 (.nil)))
 (.seq (.forr (.nm 2) (.rev (.sli (.var 0) (.non) (.var 1)))
 (.seq (.ite (.cmp .In (.sub (.var 2) (.con (.int 0))) (.glo 3))
 (.seq (.ret (.cmp .Eq (.sub (.var 2) (.con (.int 0))) (.con (.str [115, 116, 114, 101, 116, 99, 104]))))
 (.nil))
 (.nil))
 (.nil)))
 (.seq (.ret (.con (.bl false)))
 (.nil)))
theorem c_is_fast_place : chkSs nm n_is_fast_place s_is_fast_place (defScope (topS 27)) (defBody (topS 27)) = true := by kernel_rfl
abbrev n_span_of : List PySem.Str := ["box"]
def s_span_of : SE :=
 .seq (.ite (.cmp .Eq (.sub (.var 0) (.con (.int 0))) (.con (.str [116, 97, 112, 115])))
 (.seq (.ret (.bin .Sub (.blt .len (.cons (.var 0) (.nil))) (.con (.int 2))))
 (.nil))
 (.nil))
 (.seq (.ret (.ife (.cmp .Eq (.sub (.var 0) (.con (.int 0))) (.con (.str [98, 108, 101, 110, 100]))) (.bin .Sub (.blt .max2 (.cons (.blt .len (.cons (.sub (.var 0) (.con (.int 1))) (.nil))) (.cons (.blt .len (.cons (.sub (.var 0) (.con (.int 2))) (.nil))) (.nil)))) (.con (.int 1))) (.con (.int 0))))
 (.nil))
theorem c_span_of : chkSs nm n_span_of s_span_of (defScope (topS 28)) (defBody (topS 28)) = true := by kernel_rfl
abbrev n_check_rates : List PySem.Str := ["boxes", "last", "at", "box"]
def s_check_rates : SE :=
 .seq (.set (.nm 1) (.con (.str [])))
 (.seq (.forr (.tup (.cons (.nm 2) (.cons (.nm 3) (.nil)))) (.enm (.var 0))
 (.seq (.ite (.cmp .In (.sub (.var 3) (.con (.int 0))) (.glo 3))
 (.seq (.ite (.cmp .Eq (.sub (.var 3) (.con (.int 0))) (.var 1))
 (.seq (.unk)
 (.nil))
 (.nil))
 (.seq (.set (.nm 1) (.sub (.var 3) (.con (.int 0))))
 (.nil)))
 (.nil))
 (.nil)))
 (.nil))
theorem c_check_rates : chkSs nm n_check_rates s_check_rates (defScope (topS 29)) (defBody (topS 29)) = true := by kernel_rfl
abbrev n_Chain___init__ : List PySem.Str := ["self", "boxes", "at", "box"]
def s_Chain___init__ : SE :=
 .seq (.forr (.tup (.cons (.nm 2) (.cons (.nm 3) (.nil)))) (.enm (.var 1))
 (.seq (.ite (.not (.call 22 (.cons (.var 3) (.nil))))
 (.seq (.unk)
 (.nil))
 (.nil))
 (.nil)))
 (.seq (.ite (.cmp .Gt (.blt .len (.cons (.var 1) (.nil))) (.cat 0 5))
 (.seq (.unk)
 (.nil))
 (.nil))
 (.seq (.ex (.call 21 (.cons (.var 1) (.nil))))
 (.seq (.forr (.tup (.cons (.nm 2) (.cons (.nm 3) (.nil)))) (.enm (.var 1))
 (.seq (.ite (.and (.cmp .In (.sub (.var 3) (.con (.int 0))) (.tup (.cons (.con (.str [103, 97, 116, 101])) (.cons (.con (.str [98, 108, 101, 110, 100])) (.nil))))) (.one (.call 20 (.cons (.var 1) (.cons (.var 2) (.nil))))))
 (.seq (.unk)
 (.nil))
 (.nil))
 (.nil)))
 (.seq (.ite (.cmp .Gt (.blt .sum (.cons (.comp (.call 19 (.cons (.var 3) (.nil))) (.nm 3) (.var 1) (.con (.bl true)) [3]) (.nil))) (.cat 0 4))
 (.seq (.unk)
 (.nil))
 (.nil))
 (.seq (.sta 3 (.var 0) (.blt .list (.cons (.var 1) (.nil))))
 (.nil))))))
theorem c_Chain___init__ : chkSs nm n_Chain___init__ s_Chain___init__ (defScope (memS 30 2)) (defBody (memS 30 2)) = true := by kernel_rfl
abbrev n_Chain_is_fast : List PySem.Str := ["self", "at"]
def s_Chain_is_fast : SE :=
 .seq (.ex (.meth 6 (.var 0) (.cons (.var 1) (.cons (.bin .Sub (.blt .len (.cons (.att 3 (.var 0)) (.nil))) (.con (.int 1))) (.nil)))))
 (.seq (.ret (.and (.cmp .Eq (.sub (.sub (.att 3 (.var 0)) (.var 1)) (.con (.int 0))) (.con (.str [116, 97, 112, 115]))) (.one (.call 20 (.cons (.att 3 (.var 0)) (.cons (.var 1) (.nil)))))))
 (.nil))
theorem c_Chain_is_fast : chkSs nm n_Chain_is_fast s_Chain_is_fast (defScope (memS 30 7)) (defBody (memS 30 7)) = true := by kernel_rfl
abbrev n_Chain_check_at : List PySem.Str := ["self", "at", "most"]
def s_Chain_check_at : SE :=
 .seq (.ite (.not (.call 16 (.cons (.var 1) (.cons (.con (.int 0)) (.cons (.var 2) (.nil))))))
 (.seq (.unk)
 (.nil))
 (.nil))
 (.nil)
theorem c_Chain_check_at : chkSs nm n_Chain_check_at s_Chain_check_at (defScope (memS 30 6)) (defBody (memS 30 6)) = true := by kernel_rfl
abbrev n_Chain_with_box : List PySem.Str := ["self", "at", "box", "boxes"]
def s_Chain_with_box : SE :=
 .seq (.ex (.meth 6 (.var 0) (.cons (.var 1) (.cons (.blt .len (.cons (.att 3 (.var 0)) (.nil))) (.nil)))))
 (.seq (.set (.nm 3) (.bin .Add (.bin .Add (.sli (.att 3 (.var 0)) (.non) (.var 1)) (.lst (.cons (.var 2) (.nil)))) (.sli (.att 3 (.var 0)) (.var 1) (.non))))
 (.seq (.ret (.makS 0 true (.var 3)))
 (.nil)))
theorem c_Chain_with_box : chkSs nm n_Chain_with_box s_Chain_with_box (defScope (memS 30 17)) (defBody (memS 30 17)) = true := by kernel_rfl
abbrev n_Chain___len__ : List PySem.Str := ["self"]
def s_Chain___len__ : SE :=
 .seq (.ret (.blt .len (.cons (.att 3 (.var 0)) (.nil))))
 (.nil)
theorem c_Chain___len__ : chkSs nm n_Chain___len__ s_Chain___len__ (defScope (memS 30 23)) (defBody (memS 30 23)) = true := by kernel_rfl
end Kx
end VI
-- K2
set_option Elab.async false
set_option linter.all false
set_option maxRecDepth 100000
set_option maxHeartbeats 0
namespace VI
open PySem PySem.Spec PyProof.Rows L2
namespace Kx
def dfs : Nat → Option DfI
  | 0 => some ⟨4, 2, false, s__law_same⟩
  | 1 => some ⟨5, 1, false, s_columns⟩
  | 2 => some ⟨3, 1, false, s__law_chain⟩
  | 3 => some ⟨3, 2, false, s__law_is_fast⟩
  | 4 => some ⟨2, 1, false, s__law_text_of⟩
  | 5 => some ⟨10, 2, false, s__law_any_boxes⟩
  | 6 => some ⟨3, 1, false, s__law_bag⟩
  | 7 => some ⟨1, 1, false, s_box_text⟩
  | 8 => some ⟨5, 2, false, s__law_draw⟩
  | 9 => some ⟨1, 1, false, s__law_box_span⟩
  | 10 => some ⟨5, 1, false, s__law_any_taps⟩
  | 11 => some ⟨2, 1, false, s__law_slow_box⟩
  | 12 => some ⟨2, 2, false, s__law_of⟩
  | 13 => some ⟨4, 1, false, s__law_any_side⟩
  | 14 => some ⟨2, 1, false, s__law_rates⟩
  | 15 => some ⟨1, 1, false, s_is_integer⟩
  | 16 => some ⟨3, 3, false, s_is_number⟩
  | 17 => some ⟨3, 2, false, s_are_taps⟩
  | 18 => some ⟨2, 1, false, s_numbers_text⟩
  | 19 => some ⟨1, 1, false, s_span_of⟩
  | 20 => some ⟨3, 2, false, s_is_fast_place⟩
  | 21 => some ⟨4, 1, false, s_check_rates⟩
  | 22 => some ⟨2, 1, false, s_is_box⟩
  | 23 => some ⟨10, 1, false, s_law⟩
  | 24 => some ⟨4, 2, true, s_Chain___init__⟩
  | 25 => some ⟨2, 2, false, s_Chain_is_fast⟩
  | 26 => some ⟨3, 3, false, s_Chain_check_at⟩
  | 27 => some ⟨4, 3, false, s_Chain_with_box⟩
  | 28 => some ⟨1, 1, false, s_Chain___len__⟩
  | _ => none
def tt : Ttb := { n := nm, gls := [.int 99, .int 9, .tup [.str [116, 97, 112, 115], .str [98, 108, 101, 110, 100], .str [116, 104, 105, 110], .str [115, 116, 114, 101, 116, 99, 104], .str [103, 97, 116, 101]], .tup [.str [116, 104, 105, 110], .str [115, 116, 114, 101, 116, 99, 104]]], flds := [["own_boxes"]], paths := [("_law_same", none), ("columns", none), ("_law_chain", none), ("_law_is_fast", none), ("_law_text_of", none), ("_law_any_boxes", none), ("_law_bag", none), ("box_text", none), ("_law_draw", none), ("_law_box_span", none), ("_law_any_taps", none), ("_law_slow_box", none), ("_law_of", none), ("_law_any_side", none), ("_law_rates", none), ("is_integer", none), ("is_number", none), ("are_taps", none), ("numbers_text", none), ("span_of", none), ("is_fast_place", none), ("check_rates", none), ("is_box", none), ("law", none), ("Chain", some "__init__"), ("Chain", some "is_fast"), ("Chain", some "check_at"), ("Chain", some "with_box"), ("Chain", some "__len__")], fldL := [(0, 3, 0)], mthL := [(0, 1, 25), (0, 2, 27), (0, 6, 26)], iniL := [24], lnmL := [(0, 28)], catL := [(0, 5, .int 10), (0, 4, .int 12)], wlkL := [(0, 0, 0)], ckL := [1] }
def clN : Nat → Nat → List D → Wd → Res D
  | 0, _, _, _ => .no
  | k + 1, f, ds, W => match dfs f with
    | some d => runF (tt.tb (clN k)) d ds W
    | none => .no
def lawN (k : Nat) (xs : List Int) : Res D := clN k 23 [.hd 0] [.ro (xs.map D.int)]
@[irreducible] def clS : Nat → Nat → List D → Wd → Res D := clN
theorem clS_eq : clS = clN := by unfold clS; rfl
abbrev kr (Q : Cn D) (X : Cx) : Kt := ⟨⟨fun _ W => Q .non W, .mk⟩, Q, ⟨fun _ _ => False, .mk⟩, ⟨fun _ _ => False, .mk⟩, X⟩
theorem u__law_same {k : Nat} {W : Wd} {Q : Cn D} {X : Cx} {a0 a1 : D} : RR (clS (k + 1) 0 [a0, a1] W) Q X ↔ SS (tt.tb (clS k)) s__law_same [some a0, some a1, none, none] W (kr Q X) := by
  rw [clS_eq, sSS]
  exact RR_endS (r := evS (tt.tb (clN k)) s__law_same [some a0, some a1, none, none] W)
theorem u_columns {k : Nat} {W : Wd} {Q : Cn D} {X : Cx} {a0 : D} : RR (clS (k + 1) 1 [a0] W) Q X ↔ SS (tt.tb (clS k)) s_columns [some a0, none, none, none, none] W (kr Q X) := by
  rw [clS_eq, sSS]
  exact RR_endS (r := evS (tt.tb (clN k)) s_columns [some a0, none, none, none, none] W)
theorem u__law_chain {k : Nat} {W : Wd} {Q : Cn D} {X : Cx} {a0 : D} : RR (clS (k + 1) 2 [a0] W) Q X ↔ SS (tt.tb (clS k)) s__law_chain [some a0, none, none] W (kr Q X) := by
  rw [clS_eq, sSS]
  exact RR_endS (r := evS (tt.tb (clN k)) s__law_chain [some a0, none, none] W)
theorem u__law_is_fast {k : Nat} {W : Wd} {Q : Cn D} {X : Cx} {a0 a1 : D} : RR (clS (k + 1) 3 [a0, a1] W) Q X ↔ SS (tt.tb (clS k)) s__law_is_fast [some a0, some a1, none] W (kr Q X) := by
  rw [clS_eq, sSS]
  exact RR_endS (r := evS (tt.tb (clN k)) s__law_is_fast [some a0, some a1, none] W)
theorem u__law_text_of {k : Nat} {W : Wd} {Q : Cn D} {X : Cx} {a0 : D} : RR (clS (k + 1) 4 [a0] W) Q X ↔ SS (tt.tb (clS k)) s__law_text_of [some a0, none] W (kr Q X) := by
  rw [clS_eq, sSS]
  exact RR_endS (r := evS (tt.tb (clN k)) s__law_text_of [some a0, none] W)
theorem u__law_any_boxes {k : Nat} {W : Wd} {Q : Cn D} {X : Cx} {a0 a1 : D} : RR (clS (k + 1) 5 [a0, a1] W) Q X ↔ SS (tt.tb (clS k)) s__law_any_boxes [some a0, some a1, none, none, none, none, none, none, none, none] W (kr Q X) := by
  rw [clS_eq, sSS]
  exact RR_endS (r := evS (tt.tb (clN k)) s__law_any_boxes [some a0, some a1, none, none, none, none, none, none, none, none] W)
theorem u__law_bag {k : Nat} {W : Wd} {Q : Cn D} {X : Cx} {a0 : D} : RR (clS (k + 1) 6 [a0] W) Q X ↔ SS (tt.tb (clS k)) s__law_bag [some a0, none, none] W (kr Q X) := by
  rw [clS_eq, sSS]
  exact RR_endS (r := evS (tt.tb (clN k)) s__law_bag [some a0, none, none] W)
theorem u_box_text {k : Nat} {W : Wd} {Q : Cn D} {X : Cx} {a0 : D} : RR (clS (k + 1) 7 [a0] W) Q X ↔ SS (tt.tb (clS k)) s_box_text [some a0] W (kr Q X) := by
  rw [clS_eq, sSS]
  exact RR_endS (r := evS (tt.tb (clN k)) s_box_text [some a0] W)
theorem u__law_draw {k : Nat} {W : Wd} {Q : Cn D} {X : Cx} {a0 a1 : D} : RR (clS (k + 1) 8 [a0, a1] W) Q X ↔ SS (tt.tb (clS k)) s__law_draw [some a0, some a1, none, none, none] W (kr Q X) := by
  rw [clS_eq, sSS]
  exact RR_endS (r := evS (tt.tb (clN k)) s__law_draw [some a0, some a1, none, none, none] W)
theorem u__law_box_span {k : Nat} {W : Wd} {Q : Cn D} {X : Cx} {a0 : D} : RR (clS (k + 1) 9 [a0] W) Q X ↔ SS (tt.tb (clS k)) s__law_box_span [some a0] W (kr Q X) := by
  rw [clS_eq, sSS]
  exact RR_endS (r := evS (tt.tb (clN k)) s__law_box_span [some a0] W)
theorem u__law_any_taps {k : Nat} {W : Wd} {Q : Cn D} {X : Cx} {a0 : D} : RR (clS (k + 1) 10 [a0] W) Q X ↔ SS (tt.tb (clS k)) s__law_any_taps [some a0, none, none, none, none] W (kr Q X) := by
  rw [clS_eq, sSS]
  exact RR_endS (r := evS (tt.tb (clN k)) s__law_any_taps [some a0, none, none, none, none] W)
theorem u__law_slow_box {k : Nat} {W : Wd} {Q : Cn D} {X : Cx} {a0 : D} : RR (clS (k + 1) 11 [a0] W) Q X ↔ SS (tt.tb (clS k)) s__law_slow_box [some a0, none] W (kr Q X) := by
  rw [clS_eq, sSS]
  exact RR_endS (r := evS (tt.tb (clN k)) s__law_slow_box [some a0, none] W)
theorem u__law_of {k : Nat} {W : Wd} {Q : Cn D} {X : Cx} {a0 a1 : D} : RR (clS (k + 1) 12 [a0, a1] W) Q X ↔ SS (tt.tb (clS k)) s__law_of [some a0, some a1] W (kr Q X) := by
  rw [clS_eq, sSS]
  exact RR_endS (r := evS (tt.tb (clN k)) s__law_of [some a0, some a1] W)
theorem u__law_any_side {k : Nat} {W : Wd} {Q : Cn D} {X : Cx} {a0 : D} : RR (clS (k + 1) 13 [a0] W) Q X ↔ SS (tt.tb (clS k)) s__law_any_side [some a0, none, none, none] W (kr Q X) := by
  rw [clS_eq, sSS]
  exact RR_endS (r := evS (tt.tb (clN k)) s__law_any_side [some a0, none, none, none] W)
theorem u__law_rates {k : Nat} {W : Wd} {Q : Cn D} {X : Cx} {a0 : D} : RR (clS (k + 1) 14 [a0] W) Q X ↔ SS (tt.tb (clS k)) s__law_rates [some a0, none] W (kr Q X) := by
  rw [clS_eq, sSS]
  exact RR_endS (r := evS (tt.tb (clN k)) s__law_rates [some a0, none] W)
theorem u_is_integer {k : Nat} {W : Wd} {Q : Cn D} {X : Cx} {a0 : D} : RR (clS (k + 1) 15 [a0] W) Q X ↔ SS (tt.tb (clS k)) s_is_integer [some a0] W (kr Q X) := by
  rw [clS_eq, sSS]
  exact RR_endS (r := evS (tt.tb (clN k)) s_is_integer [some a0] W)
theorem u_is_number {k : Nat} {W : Wd} {Q : Cn D} {X : Cx} {a0 a1 a2 : D} : RR (clS (k + 1) 16 [a0, a1, a2] W) Q X ↔ SS (tt.tb (clS k)) s_is_number [some a0, some a1, some a2] W (kr Q X) := by
  rw [clS_eq, sSS]
  exact RR_endS (r := evS (tt.tb (clN k)) s_is_number [some a0, some a1, some a2] W)
theorem u_are_taps {k : Nat} {W : Wd} {Q : Cn D} {X : Cx} {a0 a1 : D} : RR (clS (k + 1) 17 [a0, a1] W) Q X ↔ SS (tt.tb (clS k)) s_are_taps [some a0, some a1, none] W (kr Q X) := by
  rw [clS_eq, sSS]
  exact RR_endS (r := evS (tt.tb (clN k)) s_are_taps [some a0, some a1, none] W)
theorem u_numbers_text {k : Nat} {W : Wd} {Q : Cn D} {X : Cx} {a0 : D} : RR (clS (k + 1) 18 [a0] W) Q X ↔ SS (tt.tb (clS k)) s_numbers_text [some a0, none] W (kr Q X) := by
  rw [clS_eq, sSS]
  exact RR_endS (r := evS (tt.tb (clN k)) s_numbers_text [some a0, none] W)
theorem u_span_of {k : Nat} {W : Wd} {Q : Cn D} {X : Cx} {a0 : D} : RR (clS (k + 1) 19 [a0] W) Q X ↔ SS (tt.tb (clS k)) s_span_of [some a0] W (kr Q X) := by
  rw [clS_eq, sSS]
  exact RR_endS (r := evS (tt.tb (clN k)) s_span_of [some a0] W)
theorem u_is_fast_place {k : Nat} {W : Wd} {Q : Cn D} {X : Cx} {a0 a1 : D} : RR (clS (k + 1) 20 [a0, a1] W) Q X ↔ SS (tt.tb (clS k)) s_is_fast_place [some a0, some a1, none] W (kr Q X) := by
  rw [clS_eq, sSS]
  exact RR_endS (r := evS (tt.tb (clN k)) s_is_fast_place [some a0, some a1, none] W)
theorem u_check_rates {k : Nat} {W : Wd} {Q : Cn D} {X : Cx} {a0 : D} : RR (clS (k + 1) 21 [a0] W) Q X ↔ SS (tt.tb (clS k)) s_check_rates [some a0, none, none, none] W (kr Q X) := by
  rw [clS_eq, sSS]
  exact RR_endS (r := evS (tt.tb (clN k)) s_check_rates [some a0, none, none, none] W)
theorem u_is_box {k : Nat} {W : Wd} {Q : Cn D} {X : Cx} {a0 : D} : RR (clS (k + 1) 22 [a0] W) Q X ↔ SS (tt.tb (clS k)) s_is_box [some a0, none] W (kr Q X) := by
  rw [clS_eq, sSS]
  exact RR_endS (r := evS (tt.tb (clN k)) s_is_box [some a0, none] W)
theorem u_law {k : Nat} {W : Wd} {Q : Cn D} {X : Cx} {a0 : D} : RR (clS (k + 1) 23 [a0] W) Q X ↔ SS (tt.tb (clS k)) s_law [some a0, none, none, none, none, none, none, none, none, none] W (kr Q X) := by
  rw [clS_eq, sSS]
  exact RR_endS (r := evS (tt.tb (clN k)) s_law [some a0, none, none, none, none, none, none, none, none, none] W)
theorem u_Chain___init__ {k : Nat} {W : Wd} {Q : Cn D} {X : Cx} {a0 : D} {rest : List D} (h : fits rest.length = true) : RR (clS (k + 1) 24 (a0 :: rest) W) Q X ↔ SS (tt.tb (clS k)) s_Chain___init__ [some a0, some (.tup rest), none, none] W (kr Q X) := by
  rw [clS_eq, sSS]
  show RR (runF (tt.tb (clN k)) ⟨4, 2, true, s_Chain___init__⟩ (a0 :: rest) W) Q X ↔ _
  unfold runF
  rw [if_pos rfl, if_pos (by simp [h, show ∀ n, n + 1 - 1 = n from fun n => by omega])]
  exact RR_endS
theorem u_Chain_is_fast {k : Nat} {W : Wd} {Q : Cn D} {X : Cx} {a0 a1 : D} : RR (clS (k + 1) 25 [a0, a1] W) Q X ↔ SS (tt.tb (clS k)) s_Chain_is_fast [some a0, some a1] W (kr Q X) := by
  rw [clS_eq, sSS]
  exact RR_endS (r := evS (tt.tb (clN k)) s_Chain_is_fast [some a0, some a1] W)
theorem u_Chain_check_at {k : Nat} {W : Wd} {Q : Cn D} {X : Cx} {a0 a1 a2 : D} : RR (clS (k + 1) 26 [a0, a1, a2] W) Q X ↔ SS (tt.tb (clS k)) s_Chain_check_at [some a0, some a1, some a2] W (kr Q X) := by
  rw [clS_eq, sSS]
  exact RR_endS (r := evS (tt.tb (clN k)) s_Chain_check_at [some a0, some a1, some a2] W)
theorem u_Chain_with_box {k : Nat} {W : Wd} {Q : Cn D} {X : Cx} {a0 a1 a2 : D} : RR (clS (k + 1) 27 [a0, a1, a2] W) Q X ↔ SS (tt.tb (clS k)) s_Chain_with_box [some a0, some a1, some a2, none] W (kr Q X) := by
  rw [clS_eq, sSS]
  exact RR_endS (r := evS (tt.tb (clN k)) s_Chain_with_box [some a0, some a1, some a2, none] W)
theorem u_Chain___len__ {k : Nat} {W : Wd} {Q : Cn D} {X : Cx} {a0 : D} : RR (clS (k + 1) 28 [a0] W) Q X ↔ SS (tt.tb (clS k)) s_Chain___len__ [some a0] W (kr Q X) := by
  rw [clS_eq, sSS]
  exact RR_endS (r := evS (tt.tb (clN k)) s_Chain___len__ [some a0] W)
section
variable {c : Nat → List D → Wd → Res D}
theorem tb_cl : (tt.tb c).cl = c := rfl
theorem tb_fld_0_3 : (tt.tb c).fld 0 3 = some (0) := rfl
theorem tb_mth_0_1 : (tt.tb c).mth 0 1 = some (25) := rfl
theorem tb_mth_0_2 : (tt.tb c).mth 0 2 = some (27) := rfl
theorem tb_mth_0_6 : (tt.tb c).mth 0 6 = some (26) := rfl
theorem tb_cat_0_5 : (tt.tb c).cat 0 5 = some (.int 10) := rfl
theorem tb_cat_0_4 : (tt.tb c).cat 0 4 = some (.int 12) := rfl
theorem tb_wlk_0_0 : (tt.tb c).wlk 0 0 = some (0) := rfl
theorem tb_lnm_0 : (tt.tb c).lnm 0 = some 28 := rfl
theorem tb_ini_0 : (tt.tb c).ini 0 = 24 := rfl
theorem tb_gl_0 : (tt.tb c).gl 0 = .int 99 := rfl
theorem tb_gl_1 : (tt.tb c).gl 1 = .int 9 := rfl
theorem tb_gl_2 : (tt.tb c).gl 2 = .tup [.str [116, 97, 112, 115], .str [98, 108, 101, 110, 100], .str [116, 104, 105, 110], .str [115, 116, 114, 101, 116, 99, 104], .str [103, 97, 116, 101]] := rfl
theorem tb_gl_3 : (tt.tb c).gl 3 = .tup [.str [116, 104, 105, 110], .str [115, 116, 114, 101, 116, 99, 104]] := rfl
theorem tb_ck_0 : (tt.tb c).ck 0 = c 1 := rfl
end
end Kx
end VI
-- P1
set_option Elab.async false
set_option linter.all false
set_option maxRecDepth 100000
set_option maxHeartbeats 0
namespace VI
open PySem PySem.Spec PyProof.Rows L2
namespace Kx
local macro_rules | `(tactic| sizeOf_list_dec) => `(tactic| simp (decide := true) only [RR_ok, RR_exc, RR_no, RR_bind, RS_nx, RS_ret, RS_brk, RS_ct, RS_exc, RS_no, RS_on, RS_then, BO_some, BO_none, RR_rBo, RR_rB, EV_some, TR_bl, TR_int, TR_non, TR_lst, TR_tup, IT_lst, IT_tup, IT_str, EEp_var, EEp_con, EEp_glo, EEp_bin, EEp_adm, EEp_neg, EEp_cmp, TB_bl, EEp_chn, EEp_and, ETp_and, EEp_or, ETp_or, EEp_not, ETp_not, EEp_one, ETp_one, EEp_ife, EEp_sub, EPp_non, TI_int, EPp_of, EPp_con, EPp_var, EPp_bin, EPp_blt, EPp_neg, EPp_sub, EPp_call, EPp_att, EPp_lni, EPp_glo, EEp_sli, EEp_rev, EEp_non, EEp_tup, EEp_lst, EEp_mls, EAp_nil, EAp_cons, SQ_lst, SQ_tup, EAp_star, EEp_blt, EEp_isi, TS_str, EEp_join, EEp_call, EEp_calS, EEp_makS, EEp_calK, EEp_make, TN_ins, EEp_meth, EEp_att, EEp_lni, EEp_cat, EEp_mli, EEp_comp, EEp_mco, EEp_fsp, EAp_fpn, EAp_fpc, EEp_fmt, EEp_frz, EEp_app, EIp_rn1, EIp_rn2, TQ_lst, TQ_tup, EIp_enm, TZ_lst, TZ_tup, EIp_zip, RR_fep, RR_ftp, RR_fap, RR_fip, RS_fsp, ETp_var, ETp_con, ETp_cmp, ETp_chn, ETp_call, ETp_meth, ETp_att, ETp_blt, ETp_isi, EIp_ife, EIp_var, EIp_glo, EIp_con, EIp_sub, EIp_sli, EIp_rev, EIp_lst, EIp_tup, EIp_att, EIp_call, EIp_meth, EIp_comp, EIp_bin, SSp_skip, SSp_nil, SSp_seq, SSp_ex, SSp_ret, SSp_retN, SSp_set, SSp_par, SSp_sct, SSp_ite, SSp_forr, TF_ins, TL_lst, SSp_forw, SSp_whl, SSp_brk, SSp_cnt, SSp_gho, SSp_aug, SSp_sti, SSp_sta, RR_endS, ↓EE_var, ↓EE_con, ↓EE_glo, ↓EE_bin, ↓EE_adm, ↓EE_neg, ↓EE_cmp, ↓EE_chn, ↓EE_and, ↓ET_and, ↓EE_or, ↓ET_or, ↓EE_not, ↓ET_not, ↓EE_one, ↓ET_one, ↓EE_ife, ↓EE_sub, ↓EP_non, ↓EP_con, ↓EP_var, ↓EP_bin, ↓EP_blt, ↓EP_neg, ↓EP_sub, ↓EP_call, ↓EP_att, ↓EP_lni, ↓EP_glo, ↓EE_sli, ↓EE_rev, ↓EE_non, ↓EE_tup, ↓EE_lst, ↓EE_mls, ↓EA_nil, ↓EA_cons, ↓EA_star, ↓EE_blt, ↓EE_isi, ↓EE_join, ↓EE_call, ↓EE_calS, ↓EE_makS, ↓EE_calK, ↓EE_make, ↓EE_meth, ↓EE_att, ↓EE_lni, ↓EE_cat, ↓EE_mli, ↓EE_comp, ↓EE_mco, ↓EE_fsp, ↓EA_fpn, ↓EA_fpc, ↓EE_fmt, ↓EE_frz, ↓EE_app, ↓EI_rn1, ↓EI_rn2, ↓EI_enm, ↓EI_zip, ↓RR_fe, ↓RR_ft, ↓RR_fa, ↓RR_fi, ↓RS_fs, ↓ET_var, ↓ET_con, ↓ET_cmp, ↓ET_chn, ↓ET_call, ↓ET_meth, ↓ET_att, ↓ET_blt, ↓ET_isi, ↓EI_ife, ↓EI_var, ↓EI_glo, ↓EI_con, ↓EI_sub, ↓EI_sli, ↓EI_rev, ↓EI_lst, ↓EI_tup, ↓EI_att, ↓EI_call, ↓EI_meth, ↓EI_comp, ↓EI_bin, ↓SS_skip, ↓SS_nil, ↓SS_seq, ↓SS_ex, ↓SS_ret, ↓SS_retN, ↓SS_set, ↓SS_par, ↓SS_sct, ↓SS_ite, ↓SS_forr, ↓SS_forw, ↓SS_whl, ↓SS_brk, ↓SS_cnt, ↓SS_gho, ↓SS_aug, ↓SS_sti, ↓SS_sta, LS_lst, LS_ro, LM_lst, LI_ins, TH_at, TN_at, SQ_at, add_int, add_str, add_lst, add_tup, adm_at, adm_lst, sub_int, mul_int, mul_lst, mul_chr, div_int, mod_int, pow_int, shl_int, neg_int, cEq_int, cNe_int, cLt_int, cLe_int, cGt_int, cGe_int, cIs_non, cIsN_non, cIn_tup, cIn_lst, cNi_tup, cNi_lst, sub_lst, sub_tup, sub_str, sub_at, sli_lst, sli_tup, sli_str, sli_at, rev_lst, rev_tup, sti_at, sta_at, len_lst, len_tup, len_str, len_at, all_lst, any_lst, sum_lst, max_int, min_int, abs_int, str_int, int_int, int_bl, list_any, tuple_lst, tuple_tup, join_lst, fmt_val, fmt_vali, fmt_lft, fmt_rgt, frz_non, frz_bl, frz_int, frz_str, frz_lst, frz_tup, frz_ins, LF_lst, LF_ins, frz_at, aug_add, aug_sub, BO_any, AT_nil, AT_cons, ty_NoneType_bool, ty_NoneType_int, ty_NoneType_str, ty_NoneType_list, ty_NoneType_tuple, ty_bool_bool, ty_bool_int, ty_bool_str, ty_bool_list, ty_bool_tuple, ty_int_bool, ty_int_int, ty_int_str, ty_int_list, ty_int_tuple, ty_str_bool, ty_str_int, ty_str_str, ty_str_list, ty_str_tuple, ty_list_bool, ty_list_int, ty_list_str, ty_list_list, ty_list_tuple, ty_tuple_bool, ty_tuple_int, ty_tuple_str, ty_tuple_list, ty_tuple_tuple, ty_NoneType_c, ty_bool_c, ty_int_c, ty_str_c, ty_list_c, ty_tuple_c, at0, at1, at2, at3, at4, ix5_1, ix5_2, ix5_3, ix5_4, bools_map, ints_map, strs_map, cEq_str, cNe_str, eqF_str, eqF_int, cEq_bl, cNe_bl, List.getElem?_cons_zero, List.getElem?_cons_succ, List.set_cons_zero, List.set_cons_succ, List.length_cons, List.length_nil, bindG, bindG.binds, setP, wipeE, if_true, if_false, Nat.reduceAdd, Int.reduceAdd, Int.reduceSub, Int.reduceMul, Int.reduceNeg, Nat.reduceSub, true_implies, forall_const, Bool.false_eq_true, false_implies, and_true, true_and, not_true_eq_false, Bool.true_eq_false, isNon, Bool.not_true, Bool.not_false, reduceCtorEq, List.isEmpty_cons, List.isEmpty_nil, putD, Nat.zero_add, and_self, implies_true, flatD, List.all_cons, List.all_nil, List.any_cons, List.any_nil, decide_true, decide_false, Bool.or_false, Bool.or_true, Bool.true_or, Bool.false_or, Bool.and_true, Bool.true_and, Bool.and_false, Bool.false_and, Bool.and_self, Bool.or_self, tb_cl, tb_fld_0_3, tb_mth_0_1, tb_mth_0_2, tb_mth_0_6, tb_cat_0_5, tb_cat_0_4, tb_wlk_0_0, tb_lnm_0, tb_ini_0, tb_gl_0, tb_gl_1, tb_gl_2, tb_gl_3, tb_ck_0])
local macro_rules | `(tactic| array_get_dec) => `(tactic| simp (decide := true) only [bindG, List.length_cons, List.length_nil, if_true, List.set_cons_zero, List.set_cons_succ, BO_some, RS_fs, SS_seq])
/-- the bag: cells, taken, rest, mixed, draws; c draws are left -/
def Bag (W : Wd) (b c : Nat) : Prop := ∃ (cells : List Int) (a r m n : Int), W[b]? = some (.lst [.lst (cells.map D.int), .int a, .int r, .int m, .int n]) ∧ 0 ≤ a ∧ 0 ≤ r ∧ 0 ≤ m ∧ m < 2147483579 ∧ 0 ≤ n ∧ n + c ≤ 2 ^ 100
theorem Bag.mono {W : Wd} {b c c' : Nat} (B : Bag W b c) (h : c' ≤ c) : Bag W b c' := by
  obtain ⟨cells, a, r, m, n, hb, ha, hr, hm, hm2, hn, hn2⟩ := B
  exact ⟨cells, a, r, m, n, hb, ha, hr, hm, hm2, hn, by omega⟩
theorem Bag.frm {W W' : Wd} {b c : Nat} {S : List Nat} (B : Bag W b c) (f : Frm S W W') (h : b ∉ S) : Bag W' b c := by
  obtain ⟨cells, a, r, m, n, hb, ha, hr, hm, hm2, hn, hn2⟩ := B
  exact ⟨cells, a, r, m, n, f.at_ b _ h hb, ha, hr, hm, hm2, hn, hn2⟩
theorem draw_ok {W : Wd} {b c : Nat} (B : Bag W b (c + 1)) {many : Int} (h : 0 < many) (h2 : many < 2 ^ 100) (k : Nat) {Q : Cn D} {X : Cx}
    (q : ∀ (i : Int) (W1 : Wd), 0 ≤ i → i < many → Bag W1 b c → Frm [b] W W1 → Q (.int i) W1) : RR (clS (k + 1) 8 [.hd b, .int many] W) Q X := by
  obtain ⟨cells, a, r, m, n, hb, ha, hr, hm, hm2, hn, hn2⟩ := B
  have hl := lt_of_get hb
  rw [u__law_draw]
  unfold s__law_draw
  refine SS_seq.mpr (SS_cut (P := fun e W1 => e = [some (.hd b), some (.int many), none, none, none] ∧ W1 = W.set b (.lst [.lst (cells.map D.int), .int a, .int r, .int m, .int (n + 1)])) ?_ ?_)
  · repeat (first | sizeOf_list_dec | simp only [hb])
  rintro e W1 ⟨rfl, rfl⟩
  refine SS_seq.mpr (SS_cut (P := fun e W1 => ∃ x a r m, e = [some (.hd b), some (.int many), none, x, none] ∧ W1 = W.set b (.lst [.lst (cells.map D.int), .int a, .int r, .int m, .int (n + 1)]) ∧ 0 ≤ a ∧ 0 ≤ r ∧ 0 ≤ m ∧ m < 2147483579) ?_ ?_)
  · repeat (first | sizeOf_list_dec | simp only [hb, List.getElem?_set_self hl, List.set_set])
    have stay : ∃ x a' r' m', [some (D.hd b), some (D.int many), none, none, none] = [some (.hd b), some (.int many), none, x, none] ∧ W.set b (.lst [.lst (cells.map D.int), .int a, .int r, .int m, .int (n + 1)]) = W.set b (.lst [.lst (cells.map D.int), .int a', .int r', .int m', .int (n + 1)]) ∧ 0 ≤ a' ∧ 0 ≤ r' ∧ 0 ≤ m' ∧ m' < 2147483579 := ⟨none, a, r, m, rfl, rfl, ha, hr, hm, hm2⟩
    refine ⟨fun h1 => ⟨fun h1 => ?_, fun h1 => stay⟩, fun h1 => stay⟩
    rw [atI_of ha]
    have hlt : a.toNat < (cells.map D.int).length := by simp at h1 ⊢; omega
    rw [List.getElem?_eq_getElem hlt, List.getElem_map]
    obtain ⟨cell, hcell⟩ : ∃ x, x = cells[a.toNat]'(by simpa using hlt) := ⟨_, rfl⟩
    rw [← hcell]
    repeat (first | sizeOf_list_dec | simp only [hb, List.getElem?_set_self hl, List.set_set, show fPow 10 18 = some (10 ^ 18) from rfl])
    refine ⟨fun h3 => ?_, fun h3 => ?_⟩
    · exact ⟨_, a + 1, cell, m, rfl, rfl, by omega, by simp at h3; omega, hm, hm2⟩
    · refine ⟨wide_of 40 40 (by omega) (by decide), ?_⟩
      repeat (first | sizeOf_list_dec | simp only [hb, List.getElem?_set_self hl, List.set_set, fMod_of (show (0 : Int) < 2147480197 by decide), fMod_of (show (0 : Int) < 2147483579 by decide)])
      refine ⟨wide_of 40 40 (by omega) (by decide), ?_⟩
      repeat (first | sizeOf_list_dec | simp only [hb, List.getElem?_set_self hl, List.set_set, fMod_of (show (0 : Int) < 2147480197 by decide), fMod_of (show (0 : Int) < 2147483579 by decide)])
      exact ⟨_, a + 1, r, _, rfl, rfl, by omega, hr, Int.emod_nonneg _ (by decide), Int.emod_lt_of_pos _ (by decide)⟩
  rintro e W1 ⟨x, a, r, m, rfl, rfl, ha, hr, hm, hm2⟩
  have fin : ∀ (r m i : Int), 0 ≤ r → 0 ≤ m → m < 2147483579 → Q (.int (i % many)) (W.set b (.lst [.lst (cells.map D.int), .int a, .int r, .int m, .int (n + 1)])) := fun r m i hr hm hm2 =>
    q _ _ (Int.emod_nonneg _ (by omega)) (Int.emod_lt_of_pos _ h) ⟨cells, a, r, m, n + 1, get_set hb, ha, hr, hm, hm2, by omega, by omega⟩ (Frm.set (by simp))
  refine SS_seq.mpr ?_
  repeat (first | sizeOf_list_dec | simp only [hb, List.getElem?_set_self hl, List.set_set])
  refine ⟨fun h1 => ?_, fun h1 => ?_⟩
  · repeat (first | sizeOf_list_dec | simp only [hb, List.getElem?_set_self hl, List.set_set, fMod_of h, fDiv_of h (show many < 2 ^ 200 by omega)])
    exact fin _ _ _ (Int.ediv_nonneg hr (by omega)) hm hm2
  · repeat (first | sizeOf_list_dec | simp only [hb, List.getElem?_set_self hl, List.set_set])
    rw [fPow_of hm (by omega) (by decide) (by decide)]
    repeat (first | sizeOf_list_dec | simp only [hb, List.getElem?_set_self hl, List.set_set])
    refine ⟨wide_of 40 40 (by omega) (by decide), ?_⟩
    repeat (first | sizeOf_list_dec | simp only [hb, List.getElem?_set_self hl, List.set_set])
    refine ⟨wide_of 101 40 (by omega) (by decide), ?_⟩
    repeat (first | sizeOf_list_dec | simp only [hb, List.getElem?_set_self hl, List.set_set, fMod_of (show (0 : Int) < 2147483579 by decide), fMod_of (show (0 : Int) < 7901 by decide), fDiv_of (show (0 : Int) < 73 by decide) (by decide), fMod_of h])
    refine ⟨wide_of 40 40 (by omega) (by decide), ?_⟩
    repeat (first | sizeOf_list_dec | simp only [hb, List.getElem?_set_self hl, List.set_set, fMod_of h])
    exact fin _ _ _ hr (Int.emod_nonneg _ (by decide)) (Int.emod_lt_of_pos _ (by decide))
end Kx
end VI
-- P2
set_option Elab.async false
set_option linter.all false
set_option maxRecDepth 100000
set_option maxHeartbeats 0
namespace VI
open PySem PySem.Spec PyProof.Rows L2
namespace Kx
local macro_rules | `(tactic| sizeOf_list_dec) => `(tactic| simp (decide := true) only [RR_ok, RR_exc, RR_no, RR_bind, RS_nx, RS_ret, RS_brk, RS_ct, RS_exc, RS_no, RS_on, RS_then, BO_some, BO_none, RR_rBo, RR_rB, EV_some, TR_bl, TR_int, TR_non, TR_lst, TR_tup, IT_lst, IT_tup, IT_str, EEp_var, EEp_con, EEp_glo, EEp_bin, EEp_adm, EEp_neg, EEp_cmp, TB_bl, EEp_chn, EEp_and, ETp_and, EEp_or, ETp_or, EEp_not, ETp_not, EEp_one, ETp_one, EEp_ife, EEp_sub, EPp_non, TI_int, EPp_of, EPp_con, EPp_var, EPp_bin, EPp_blt, EPp_neg, EPp_sub, EPp_call, EPp_att, EPp_lni, EPp_glo, EEp_sli, EEp_rev, EEp_non, EEp_tup, EEp_lst, EEp_mls, EAp_nil, EAp_cons, SQ_lst, SQ_tup, EAp_star, EEp_blt, EEp_isi, TS_str, EEp_join, EEp_call, EEp_calS, EEp_makS, EEp_calK, EEp_make, TN_ins, EEp_meth, EEp_att, EEp_lni, EEp_cat, EEp_mli, EEp_comp, EEp_mco, EEp_fsp, EAp_fpn, EAp_fpc, EEp_fmt, EEp_frz, EEp_app, EIp_rn1, EIp_rn2, TQ_lst, TQ_tup, EIp_enm, TZ_lst, TZ_tup, EIp_zip, RR_fep, RR_ftp, RR_fap, RR_fip, RS_fsp, ETp_var, ETp_con, ETp_cmp, ETp_chn, ETp_call, ETp_meth, ETp_att, ETp_blt, ETp_isi, EIp_ife, EIp_var, EIp_glo, EIp_con, EIp_sub, EIp_sli, EIp_rev, EIp_lst, EIp_tup, EIp_att, EIp_call, EIp_meth, EIp_comp, EIp_bin, SSp_skip, SSp_nil, SSp_seq, SSp_ex, SSp_ret, SSp_retN, SSp_set, SSp_par, SSp_sct, SSp_ite, SSp_forr, TF_ins, TL_lst, SSp_forw, SSp_whl, SSp_brk, SSp_cnt, SSp_gho, SSp_aug, SSp_sti, SSp_sta, RR_endS, ↓EE_var, ↓EE_con, ↓EE_glo, ↓EE_bin, ↓EE_adm, ↓EE_neg, ↓EE_cmp, ↓EE_chn, ↓EE_and, ↓ET_and, ↓EE_or, ↓ET_or, ↓EE_not, ↓ET_not, ↓EE_one, ↓ET_one, ↓EE_ife, ↓EE_sub, ↓EP_non, ↓EP_con, ↓EP_var, ↓EP_bin, ↓EP_blt, ↓EP_neg, ↓EP_sub, ↓EP_call, ↓EP_att, ↓EP_lni, ↓EP_glo, ↓EE_sli, ↓EE_rev, ↓EE_non, ↓EE_tup, ↓EE_lst, ↓EE_mls, ↓EA_nil, ↓EA_cons, ↓EA_star, ↓EE_blt, ↓EE_isi, ↓EE_join, ↓EE_call, ↓EE_calS, ↓EE_makS, ↓EE_calK, ↓EE_make, ↓EE_meth, ↓EE_att, ↓EE_lni, ↓EE_cat, ↓EE_mli, ↓EE_comp, ↓EE_mco, ↓EE_fsp, ↓EA_fpn, ↓EA_fpc, ↓EE_fmt, ↓EE_frz, ↓EE_app, ↓EI_rn1, ↓EI_rn2, ↓EI_enm, ↓EI_zip, ↓RR_fe, ↓RR_ft, ↓RR_fa, ↓RR_fi, ↓RS_fs, ↓ET_var, ↓ET_con, ↓ET_cmp, ↓ET_chn, ↓ET_call, ↓ET_meth, ↓ET_att, ↓ET_blt, ↓ET_isi, ↓EI_ife, ↓EI_var, ↓EI_glo, ↓EI_con, ↓EI_sub, ↓EI_sli, ↓EI_rev, ↓EI_lst, ↓EI_tup, ↓EI_att, ↓EI_call, ↓EI_meth, ↓EI_comp, ↓EI_bin, ↓SS_skip, ↓SS_nil, ↓SS_seq, ↓SS_ex, ↓SS_ret, ↓SS_retN, ↓SS_set, ↓SS_par, ↓SS_sct, ↓SS_ite, ↓SS_forr, ↓SS_forw, ↓SS_whl, ↓SS_brk, ↓SS_cnt, ↓SS_gho, ↓SS_aug, ↓SS_sti, ↓SS_sta, LS_lst, LS_ro, LM_lst, LI_ins, TH_at, TN_at, SQ_at, add_int, add_str, add_lst, add_tup, adm_at, adm_lst, sub_int, mul_int, mul_lst, mul_chr, div_int, mod_int, pow_int, shl_int, neg_int, cEq_int, cNe_int, cLt_int, cLe_int, cGt_int, cGe_int, cIs_non, cIsN_non, cIn_tup, cIn_lst, cNi_tup, cNi_lst, sub_lst, sub_tup, sub_str, sub_at, sli_lst, sli_tup, sli_str, sli_at, rev_lst, rev_tup, sti_at, sta_at, len_lst, len_tup, len_str, len_at, all_lst, any_lst, sum_lst, max_int, min_int, abs_int, str_int, int_int, int_bl, list_any, tuple_lst, tuple_tup, join_lst, fmt_val, fmt_vali, fmt_lft, fmt_rgt, frz_non, frz_bl, frz_int, frz_str, frz_lst, frz_tup, frz_ins, LF_lst, LF_ins, frz_at, aug_add, aug_sub, BO_any, AT_nil, AT_cons, ty_NoneType_bool, ty_NoneType_int, ty_NoneType_str, ty_NoneType_list, ty_NoneType_tuple, ty_bool_bool, ty_bool_int, ty_bool_str, ty_bool_list, ty_bool_tuple, ty_int_bool, ty_int_int, ty_int_str, ty_int_list, ty_int_tuple, ty_str_bool, ty_str_int, ty_str_str, ty_str_list, ty_str_tuple, ty_list_bool, ty_list_int, ty_list_str, ty_list_list, ty_list_tuple, ty_tuple_bool, ty_tuple_int, ty_tuple_str, ty_tuple_list, ty_tuple_tuple, ty_NoneType_c, ty_bool_c, ty_int_c, ty_str_c, ty_list_c, ty_tuple_c, at0, at1, at2, at3, at4, ix5_1, ix5_2, ix5_3, ix5_4, bools_map, ints_map, strs_map, cEq_str, cNe_str, eqF_str, eqF_int, cEq_bl, cNe_bl, List.getElem?_cons_zero, List.getElem?_cons_succ, List.set_cons_zero, List.set_cons_succ, List.length_cons, List.length_nil, bindG, bindG.binds, setP, wipeE, if_true, if_false, Nat.reduceAdd, Int.reduceAdd, Int.reduceSub, Int.reduceMul, Int.reduceNeg, Nat.reduceSub, true_implies, forall_const, Bool.false_eq_true, false_implies, and_true, true_and, not_true_eq_false, Bool.true_eq_false, isNon, Bool.not_true, Bool.not_false, reduceCtorEq, List.isEmpty_cons, List.isEmpty_nil, putD, Nat.zero_add, and_self, implies_true, flatD, List.all_cons, List.all_nil, List.any_cons, List.any_nil, decide_true, decide_false, Bool.or_false, Bool.or_true, Bool.true_or, Bool.false_or, Bool.and_true, Bool.true_and, Bool.and_false, Bool.false_and, Bool.and_self, Bool.or_self, tb_cl, tb_fld_0_3, tb_mth_0_1, tb_mth_0_2, tb_mth_0_6, tb_cat_0_5, tb_cat_0_4, tb_wlk_0_0, tb_lnm_0, tb_ini_0, tb_gl_0, tb_gl_1, tb_gl_2, tb_gl_3, tb_ck_0])
local macro_rules | `(tactic| array_get_dec) => `(tactic| simp (decide := true) only [bindG, List.length_cons, List.length_nil, if_true, List.set_cons_zero, List.set_cons_succ, BO_some, RS_fs, SS_seq])
theorem of_ok {W : Wd} {b c : Nat} (B : Bag W b (c + 1)) {xs : List D} (h : xs ≠ []) (h2 : xs.length < 2 ^ 20) (k : Nat) {Q : Cn D} {X : Cx}
    (q : ∀ (i : Nat) (hi : i < xs.length) (W1 : Wd), Bag W1 b c → Frm [b] W W1 → Q xs[i] W1) : RR (clS (k + 1 + 1) 12 [.hd b, .lst xs] W) Q X := by
  rw [u__law_of]
  unfold s__law_of
  try sizeOf_list_dec
  have hp : 0 < xs.length := List.length_pos_iff.mpr h
  refine draw_ok B (by omega) (by omega) k fun i W1 h0 h1 B1 F1 => ?_
  try sizeOf_list_dec
  rw [atI_of h0, List.getElem?_eq_getElem (by omega)]
  try sizeOf_list_dec
  exact q _ _ _ B1 F1
theorem bag_ok {xs : List Int} (hx : xs.length ≤ 63) (k : Nat) {W : Wd} {Q : Cn D} {X : Cx} {s : Nat} (hs : W[s]? = some (.ro (xs.map D.int)))
    (q : ∀ W1, Bag W1 W.length (2 ^ 90) → Frm [] W W1 → Q (.hd W.length) W1) : RR (clS (k + 1) 6 [.hd s] W) Q X := by
  rw [u__law_bag]
  unfold s__law_bag
  repeat (first | sizeOf_list_dec | simp only [hs])
  refine for_ok (fun rest env W1 => W1 = W ∧ (∃ l : List Int, rest = l.map D.int) ∧ ∃ m x, env = [some (.hd s), some (.int m), x] ∧ 0 ≤ m ∧ m < 2147483579) ?_ ?_ ?_
  · refine ⟨rfl, ⟨xs.take 63, ?_⟩, _, _, rfl, by decide, by decide⟩
    rw [cut_to (by decide), List.map_take]
    rfl
  · rintro x rest env W1 ⟨rfl, ⟨l, hl⟩, m, y, rfl, hm, hm2⟩
    cases l with
    | nil => cases hl
    | cons i l =>
      obtain ⟨rfl, rfl⟩ := List.cons.inj hl
      try sizeOf_list_dec
      refine ⟨wide_of 40 40 (by omega) (by decide), ?_⟩
      repeat (first | sizeOf_list_dec | simp only [fMod_of (show (0 : Int) < 2147480197 by decide), fMod_of (show (0 : Int) < 2147483563 by decide)])
      refine ⟨⟨l, rfl⟩, _, _, rfl, Int.emod_nonneg _ (by decide), ?_⟩
      have := Int.emod_lt_of_pos (m * 47533 + i % 2147480197 + 23) (show (0 : Int) < 2147483563 by decide)
      omega
  · rintro env W1 ⟨rfl, _, m, y, rfl, hm, hm2⟩
    repeat (first | sizeOf_list_dec | simp only [hs])
    refine q _ ?_ (Frm.app _)
    rw [cut_to (by decide), ← List.map_take]
    exact ⟨_, 0, 0, m, 0, get_app, by decide, by decide, hm, by omega, by decide, by decide⟩

/-! ### boxes -/
abbrev tTaps : List Nat := [116, 97, 112, 115]
abbrev tBlend : List Nat := [98, 108, 101, 110, 100]
abbrev tThin : List Nat := [116, 104, 105, 110]
abbrev tStretch : List Nat := [115, 116, 114, 101, 116, 99, 104]
abbrev tGate : List Nat := [103, 97, 116, 101]
inductive Bx where
  | taps (l : List Int) | blend (a b : List Int) | thin | stretch | gate
  deriving DecidableEq
def Bx.d : Bx → D
  | .taps l => .tup (.str tTaps :: l.map D.int)
  | .blend a b => .tup [.str tBlend, .tup (a.map D.int), .tup (b.map D.int)]
  | .thin => .tup [.str tThin]
  | .stretch => .tup [.str tStretch]
  | .gate => .tup [.str tGate]
theorem dx_taps {l : List Int} : (Bx.taps l).d = .tup (.str tTaps :: l.map D.int) := rfl
theorem dx_blend {a b : List Int} : (Bx.blend a b).d = .tup [.str tBlend, .tup (a.map D.int), .tup (b.map D.int)] := rfl
theorem dx_thin : Bx.thin.d = .tup [.str tThin] := rfl
theorem dx_stretch : Bx.stretch.d = .tup [.str tStretch] := rfl
theorem dx_gate : Bx.gate.d = .tup [.str tGate] := rfl
/-- numbers of taps, from a least one on -/
structure TapsOk (lo : Int) (l : List Int) : Prop where
  pos : 1 ≤ l.length
  len : l.length ≤ 9
  ge : ∀ x ∈ l, lo ≤ x
  le : ∀ x ∈ l, x ≤ 99
  nz : ∃ x ∈ l, x ≠ 0
def Bx.Ok : Bx → Prop
  | .taps l => TapsOk (-99) l
  | .blend a b => TapsOk 0 a ∧ TapsOk 0 b
  | _ => True
theorem rangeL_nil {lo c : Int} {i : Nat} : rangeL lo c i 0 = [] := rfl
theorem rangeL_cons {lo c : Int} {i n : Nat} : rangeL lo c i (n + 1) = .int (lo + i * c) :: rangeL lo c (i + 1) n := rfl
theorem rangeL_len : ∀ {n : Nat} {lo c : Int} {i : Nat}, (rangeL lo c i n).length = n
  | 0, _, _, _ => rfl
  | n + 1, _, _, _ => by rw [rangeL_cons, List.length_cons, rangeL_len]
theorem fits_of {n : Nat} (h : n ≤ 16777216) : fits n = true := Nat.ble_eq_true_of_le h
/-- numbers drawn, one a turn -/
theorem comp_nz {l : List Int} {W : Wd} {k : Nat} {env : EnvD} {Q : Cn (List D)} {X : Cx} {j : Nat} (hj : j < env.length) (q : Q (l.map fun x => .bl (!decide (x = 0))) W) :
    RR (compL (.nm j) (ev (tt.tb (clS k)) (.con (.bl true))).t (ev (tt.tb (clS k)) (.cmp .NotEq (.var j) (.con (.int 0)))).e env (l.map D.int) W) Q X := by
  refine comp_map (f := fun d => match d with | .int x => .bl (!decide (x = 0)) | _ => .non) (p := fun _ => true) (fun x hx => ?_) ?_
  · obtain ⟨z, hz, rfl⟩ := List.mem_map.mp hx
    have e : bindG W (.nm j) (D.int z) env = some (env.set j (some (.int z))) := by
      simp [bindG, hj]
    rw [e]
    try sizeOf_list_dec
    simp only [List.getElem?_set_self hj]
    try sizeOf_list_dec
  · rw [List.filter_eq_self.mpr (by simp), List.map_map]
    exact q
theorem taps_fix {l : List Int} {lo : Int} {z : Int} (hz : 1 ≤ z) (hz2 : z ≤ 99) (hlo : lo ≤ 0) (h1 : 1 ≤ l.length) (h2 : l.length ≤ 9) (hge : ∀ x ∈ l, lo ≤ x) (hle : ∀ x ∈ l, x ≤ 99) : TapsOk lo (l.drop 1 ++ [z]) where
  pos := by simp
  len := by simp; omega
  ge := fun x hx => by
    rcases List.mem_append.mp hx with h | h
    · exact hge x (List.mem_of_mem_drop h)
    · simp at h; omega
  le := fun x hx => by
    rcases List.mem_append.mp hx with h | h
    · exact hle x (List.mem_of_mem_drop h)
    · simp at h; omega
  nz := ⟨z, by simp, by omega⟩
theorem any_taps_ok {W : Wd} {b c : Nat} (B : Bag W b (c + 40)) (k : Nat) {Q : Cn D} {X : Cx}
    (q : ∀ (l : List Int) (W1 : Wd), TapsOk (-99) l → Bag W1 b c → Frm [b] W W1 → Q (Bx.taps l).d W1) : RR (clS (k + 1 + 1 + 1) 10 [.hd b] W) Q X := by
  rw [u__law_any_taps]
  unfold s__law_any_taps
  refine SS_seq.mpr (SS_cut (P := fun e W1 => ∃ n : Nat, e = [some (.hd b), some (.int n), none, none, none] ∧ 1 ≤ n ∧ n ≤ 9 ∧ Bag W1 b (c + 38) ∧ Frm [b] W W1) ?_ ?_)
  · try sizeOf_list_dec
    refine draw_ok (B.mono (show c + 39 + 1 ≤ _ by omega)) (by decide) (by decide) _ fun i W1 h0 h1 B1 F1 => ?_
    try sizeOf_list_dec
    refine ⟨fun hz => ?_, fun hz => ?_⟩
    · try sizeOf_list_dec
      refine of_ok (B1.mono (show c + 38 + 1 ≤ _ by omega)) (by simp) (by simp) _ fun i hi W2 B2 F2 => ?_
      try sizeOf_list_dec
      simp only [List.length_cons, List.length_nil] at hi
      match i, hi with
      | 0, _ => exact ⟨1, rfl, by decide, by decide, B2, F1.trans F2⟩
      | 1, _ => exact ⟨2, rfl, by decide, by decide, B2, F1.trans F2⟩
      | 2, _ => exact ⟨3, rfl, by decide, by decide, B2, F1.trans F2⟩
      | 3, _ => exact ⟨4, rfl, by decide, by decide, B2, F1.trans F2⟩
      | 4, _ => exact ⟨9, rfl, by decide, by decide, B2, F1.trans F2⟩
    · try sizeOf_list_dec
      refine draw_ok (B1.mono (show c + 38 + 1 ≤ _ by omega)) (by decide) (by decide) _ fun i W2 h0 h1 B2 F2 => ?_
      try sizeOf_list_dec
      exact ⟨(1 + i).toNat, by simp; omega, by omega, by omega, B2, F1.trans F2⟩
  intro e W1 h
  obtain ⟨n, he, hn1, hn2, B1, F1⟩ := h
  subst he
  dsimp only
  rw [SS_seq]
  refine (SS_cut (P := fun e W2 => ∃ l : List Int, e = [some (.hd b), some (.int n), some (.lst (l.map D.int)), none, none] ∧ l.length = n ∧ (∀ x ∈ l, -99 ≤ x) ∧ (∀ x ∈ l, x ≤ 99) ∧ Bag W2 b (c + 1) ∧ Frm [b] W W2) ?_ ?_)
  · try sizeOf_list_dec
    refine ⟨by unfold small62; simp; omega, fits_of (by rw [rangeL_len]; omega), ?_⟩
    refine comp_ok (fun rest acc W2 => ∃ l : List Int, acc = l.map D.int ∧ l.length + rest.length = n ∧ (∃ i m, rest = rangeL 0 1 i m) ∧ (∀ x ∈ l, -99 ≤ x) ∧ (∀ x ∈ l, x ≤ 99) ∧ Bag W2 b (c + 1 + rest.length * 4) ∧ Frm [b] W W2) (acc := []) ?_ ?_ ?_
    · exact ⟨[], rfl, by simp [rangeL_len], ⟨_, _, rfl⟩, by simp, by simp, B1.mono (by rw [rangeL_len]; simp; omega), F1⟩
    · rintro x rest acc W2 ⟨l, rfl, hlen, ⟨i, m, hr⟩, hge, hle, B2, F2⟩
      cases m with
      | zero => cases hr
      | succ m =>
        rw [rangeL_cons] at hr
        obtain ⟨rfl, rfl⟩ := List.cons.inj hr
        rw [List.length_cons] at B2
        try sizeOf_list_dec
        refine draw_ok (B2.mono (show c + 1 + (rangeL 0 1 (i + 1) m).length * 4 + 3 + 1 ≤ _ by omega)) (by decide) (by decide) _ fun i1 W3 h0 h1 B3 F3 => ?_
        try sizeOf_list_dec
        refine draw_ok (B3.mono (show c + 1 + (rangeL 0 1 (i + 1) m).length * 4 + 2 + 1 ≤ _ by omega)) (by decide) (by decide) _ fun i2 W4 h2 h3 B4 F4 => ?_
        try sizeOf_list_dec
        refine of_ok (B4.mono (show c + 1 + (rangeL 0 1 (i + 1) m).length * 4 + 1 ≤ _ by omega)) (by simp) (by simp) _ fun i' hi W5 B5 F5 => ?_
        have fr := F2.trans (F3.trans (F4.trans F5))
        have done : ∀ z : Int, -99 ≤ z → z ≤ 99 → ∃ l' : List Int, l.map D.int ++ [D.int z] = l'.map D.int ∧ l'.length + (rangeL 0 1 (i + 1) m).length = n ∧ (∃ j m', rangeL 0 1 (i + 1) m = rangeL 0 1 j m') ∧ (∀ x ∈ l', -99 ≤ x) ∧ (∀ x ∈ l', x ≤ 99) ∧ Bag W5 b (c + 1 + (rangeL 0 1 (i + 1) m).length * 4) ∧ Frm [b] W W5 := fun z z1 z2 => by
          refine ⟨l ++ [z], by simp, ?_, ⟨_, _, rfl⟩, ?_, ?_, B5, fr⟩
          · rw [List.length_append, List.length_singleton, ← hlen, List.length_cons]; omega
          · intro x hx
            rcases List.mem_append.mp hx with h | h
            · exact hge x h
            · simp at h; omega
          · intro x hx
            rcases List.mem_append.mp hx with h | h
            · exact hle x h
            · simp at h; omega
        simp only [List.length_cons, List.length_nil] at hi
        match i', hi with
        | 0, _ => exact done _ (by omega) (by omega)
        | 1, _ => exact done _ (by omega) (by omega)
        | 2, _ => exact done _ (by omega) (by omega)
        | 3, _ => exact done _ (by omega) (by omega)
        | 4, _ => exact done _ (by omega) (by omega)
    · rintro ys W2 ⟨l, hl, hlen, _, hge, hle, B2, F2⟩
      rw [List.nil_append] at hl
      subst hl
      try sizeOf_list_dec
      exact ⟨l, rfl, by simpa using hlen, hge, hle, B2.mono (by simp), F2⟩
  intro e W2 h
  obtain ⟨l, he, hlen, hge, hle, B2, F2⟩ := h
  subst he
  dsimp only
  try sizeOf_list_dec
  refine ⟨fits_of (by rw [List.length_map]; omega), comp_nz (by simp) ?_⟩
  try sizeOf_list_dec
  try sizeOf_list_dec
  rw [List.any_map]
  refine ⟨fun hv => ?_, fun hv => ?_⟩
  · try sizeOf_list_dec
    refine ⟨fits_of (by simp; omega), ?_⟩
    refine q l W2 ⟨by omega, by omega, hge, hle, ?_⟩ (B2.mono (by omega)) F2
    obtain ⟨x, hx, hz⟩ := List.any_eq_true.mp hv
    exact ⟨x, hx, by simpa using hz⟩
  · try sizeOf_list_dec
    refine draw_ok B2 (by decide) (by decide) _ fun z W3 z0 z1 B3 F3 => ?_
    try sizeOf_list_dec
    rw [cut_from (by decide)]
    refine ⟨fits_of (by simp; omega), ?_⟩
    refine ⟨fits_of (by simp; omega), ?_⟩
    have e : (D.str tTaps :: ((l.map D.int).drop 1 ++ [.int (1 + z)])) = D.str tTaps :: ((l.drop 1 ++ [1 + z]).map D.int) := by simp
    have g : Q (.tup (.str tTaps :: (l.drop 1 ++ [1 + z]).map D.int)) W3 := q (l.drop 1 ++ [1 + z]) W3 (taps_fix (by omega) (by omega) (by decide) (by omega) (by omega) hge hle) B3 (F2.trans F3)
    rw [← e] at g
    exact g
theorem any_side_ok {W : Wd} {b c : Nat} (B : Bag W b (c + 20)) (k : Nat) {Q : Cn D} {X : Cx}
    (q : ∀ (l : List Int) (W1 : Wd), TapsOk 0 l → l.length ≤ 3 → Bag W1 b c → Frm [b] W W1 → Q (.tup (l.map D.int)) W1) : RR (clS (k + 1 + 1 + 1) 13 [.hd b] W) Q X := by
  rw [u__law_any_side]
  unfold s__law_any_side
  refine SS_seq.mpr (SS_cut (P := fun e W2 => ∃ l : List Int, e = [some (.hd b), some (.lst (l.map D.int)), none, none] ∧ 1 ≤ l.length ∧ l.length ≤ 3 ∧ (∀ x ∈ l, 0 ≤ x) ∧ (∀ x ∈ l, x ≤ 99) ∧ Bag W2 b (c + 1) ∧ Frm [b] W W2) ?_ ?_)
  · try sizeOf_list_dec
    refine draw_ok (B.mono (show c + 19 + 1 ≤ _ by omega)) (by decide) (by decide) _ fun i0 W1 h0 h1 B1 F1 => ?_
    try sizeOf_list_dec
    refine ⟨by unfold small62; simp; omega, fits_of (by rw [rangeL_len]; omega), ?_⟩
    refine comp_ok (fun rest acc W2 => ∃ l : List Int, acc = l.map D.int ∧ l.length + rest.length = (1 + i0).toNat ∧ (∃ i m, rest = rangeL 0 1 i m) ∧ (∀ x ∈ l, 0 ≤ x) ∧ (∀ x ∈ l, x ≤ 99) ∧ Bag W2 b (c + 1 + rest.length * 4) ∧ Frm [b] W W2) (acc := []) ?_ ?_ ?_
    · exact ⟨[], rfl, by simp [rangeL_len], ⟨_, _, rfl⟩, by simp, by simp, B1.mono (by rw [rangeL_len]; omega), F1⟩
    · rintro x rest acc W2 ⟨l, rfl, hlen, ⟨i, m, hr⟩, hge, hle, B2, F2⟩
      cases m with
      | zero => cases hr
      | succ m =>
        rw [rangeL_cons] at hr
        obtain ⟨rfl, rfl⟩ := List.cons.inj hr
        rw [List.length_cons] at B2
        try sizeOf_list_dec
        refine draw_ok (B2.mono (show c + 1 + (rangeL 0 1 (i + 1) m).length * 4 + 3 + 1 ≤ _ by omega)) (by decide) (by decide) _ fun i1 W3 h2 h3 B3 F3 => ?_
        try sizeOf_list_dec
        refine draw_ok (B3.mono (show c + 1 + (rangeL 0 1 (i + 1) m).length * 4 + 2 + 1 ≤ _ by omega)) (by decide) (by decide) _ fun i2 W4 h4 h5 B4 F4 => ?_
        try sizeOf_list_dec
        refine of_ok (B4.mono (show c + 1 + (rangeL 0 1 (i + 1) m).length * 4 + 1 ≤ _ by omega)) (by simp) (by simp) _ fun i' hi W5 B5 F5 => ?_
        have fr := F2.trans (F3.trans (F4.trans F5))
        have done : ∀ z : Int, 0 ≤ z → z ≤ 99 → ∃ l' : List Int, l.map D.int ++ [D.int z] = l'.map D.int ∧ l'.length + (rangeL 0 1 (i + 1) m).length = (1 + i0).toNat ∧ (∃ j m', rangeL 0 1 (i + 1) m = rangeL 0 1 j m') ∧ (∀ x ∈ l', 0 ≤ x) ∧ (∀ x ∈ l', x ≤ 99) ∧ Bag W5 b (c + 1 + (rangeL 0 1 (i + 1) m).length * 4) ∧ Frm [b] W W5 := fun z z1 z2 => by
          refine ⟨l ++ [z], by simp, ?_, ⟨_, _, rfl⟩, ?_, ?_, B5, fr⟩
          · rw [List.length_append, List.length_singleton, ← hlen, List.length_cons]; omega
          · intro x hx
            rcases List.mem_append.mp hx with h | h
            · exact hge x h
            · simp at h; omega
          · intro x hx
            rcases List.mem_append.mp hx with h | h
            · exact hle x h
            · simp at h; omega
        simp only [List.length_cons, List.length_nil] at hi
        match i', hi with
        | 0, _ => exact done _ (by omega) (by omega)
        | 1, _ => exact done _ (by omega) (by omega)
        | 2, _ => exact done _ (by omega) (by omega)
    · rintro ys W2 ⟨l, hl, hlen, _, hge, hle, B2, F2⟩
      rw [List.nil_append] at hl
      subst hl
      try sizeOf_list_dec
      exact ⟨l, rfl, by simp at hlen; omega, by simp at hlen; omega, hge, hle, B2.mono (by simp), F2⟩
  intro e W2 h
  obtain ⟨l, he, hl1, hl2, hge, hle, B2, F2⟩ := h
  subst he
  dsimp only
  try sizeOf_list_dec
  refine ⟨fits_of (by rw [List.length_map]; omega), comp_nz (by simp) ?_⟩
  try sizeOf_list_dec
  try sizeOf_list_dec
  rw [List.any_map]
  refine ⟨fun hv => ?_, fun hv => ?_⟩
  · try sizeOf_list_dec
    refine q l W2 ⟨by omega, by omega, hge, hle, ?_⟩ hl2 (B2.mono (by omega)) F2
    obtain ⟨x, hx, hz⟩ := List.any_eq_true.mp hv
    exact ⟨x, hx, by simpa using hz⟩
  · try sizeOf_list_dec
    refine draw_ok B2 (by decide) (by decide) _ fun z W3 z0 z1 B3 F3 => ?_
    try sizeOf_list_dec
    rw [cut_from (by decide)]
    refine ⟨fits_of (by simp; omega), ?_⟩
    have e : (l.map D.int).drop 1 ++ [.int (1 + z)] = (l.drop 1 ++ [1 + z]).map D.int := by simp
    have g : Q (.tup ((l.drop 1 ++ [1 + z]).map D.int)) W3 := q (l.drop 1 ++ [1 + z]) W3 (taps_fix (by omega) (by omega) (by decide) (by omega) (by omega) hge hle) (by simp; omega) B3 (F2.trans F3)
    rw [← e] at g
    exact g
/-- a box that may stand at a slow place -/
theorem slow_box_ok {W : Wd} {b c : Nat} (B : Bag W b (c + 50)) (k : Nat) {Q : Cn D} {X : Cx}
    (q : ∀ (x : Bx) (W1 : Wd), x.Ok → x ≠ .thin → x ≠ .stretch → Bag W1 b c → Frm [b] W W1 → Q x.d W1) : RR (clS (k + 1 + 1 + 1 + 1) 11 [.hd b] W) Q X := by
  rw [u__law_slow_box]
  unfold s__law_slow_box
  try sizeOf_list_dec
  refine draw_ok (B.mono (show c + 49 + 1 ≤ _ by omega)) (by decide) (by decide) _ fun i W1 h0 h1 B1 F1 => ?_
  try sizeOf_list_dec
  refine ⟨fun hv => ?_, fun hv => ?_⟩
  · try sizeOf_list_dec
    refine any_taps_ok (B1.mono (show c + 40 ≤ _ by omega)) k fun l W2 ho B2 F2 => ?_
    exact q (.taps l) W2 ho (by simp) (by simp) B2 (F1.trans F2)
  · try sizeOf_list_dec
    refine ⟨fun hv => ?_, fun hv => ?_⟩
    · try sizeOf_list_dec
      exact q .gate W1 trivial (by simp) (by simp) (B1.mono (by omega)) F1
    · try sizeOf_list_dec
      refine any_side_ok (B1.mono (show c + 20 + 20 ≤ _ by omega)) k fun l W2 ho _ B2 F2 => ?_
      try sizeOf_list_dec
      refine any_side_ok B2 k fun l2 W3 ho2 _ B3 F3 => ?_
      try sizeOf_list_dec
      exact q (.blend l l2) W3 ⟨ho, ho2⟩ (by simp) (by simp) B3 (F1.trans (F2.trans F3))
end Kx
end VI
-- P3
set_option Elab.async false
set_option linter.all false
set_option maxRecDepth 100000
set_option maxHeartbeats 0
namespace VI
open PySem PySem.Spec PyProof.Rows L2
namespace Kx
local macro_rules | `(tactic| sizeOf_list_dec) => `(tactic| simp (decide := true) only [RR_ok, RR_exc, RR_no, RR_bind, RS_nx, RS_ret, RS_brk, RS_ct, RS_exc, RS_no, RS_on, RS_then, BO_some, BO_none, RR_rBo, RR_rB, EV_some, TR_bl, TR_int, TR_non, TR_lst, TR_tup, IT_lst, IT_tup, IT_str, EEp_var, EEp_con, EEp_glo, EEp_bin, EEp_adm, EEp_neg, EEp_cmp, TB_bl, EEp_chn, EEp_and, ETp_and, EEp_or, ETp_or, EEp_not, ETp_not, EEp_one, ETp_one, EEp_ife, EEp_sub, EPp_non, TI_int, EPp_of, EPp_con, EPp_var, EPp_bin, EPp_blt, EPp_neg, EPp_sub, EPp_call, EPp_att, EPp_lni, EPp_glo, EEp_sli, EEp_rev, EEp_non, EEp_tup, EEp_lst, EEp_mls, EAp_nil, EAp_cons, SQ_lst, SQ_tup, EAp_star, EEp_blt, EEp_isi, TS_str, EEp_join, EEp_call, EEp_calS, EEp_makS, EEp_calK, EEp_make, TN_ins, EEp_meth, EEp_att, EEp_lni, EEp_cat, EEp_mli, EEp_comp, EEp_mco, EEp_fsp, EAp_fpn, EAp_fpc, EEp_fmt, EEp_frz, EEp_app, EIp_rn1, EIp_rn2, TQ_lst, TQ_tup, EIp_enm, TZ_lst, TZ_tup, EIp_zip, RR_fep, RR_ftp, RR_fap, RR_fip, RS_fsp, ETp_var, ETp_con, ETp_cmp, ETp_chn, ETp_call, ETp_meth, ETp_att, ETp_blt, ETp_isi, EIp_ife, EIp_var, EIp_glo, EIp_con, EIp_sub, EIp_sli, EIp_rev, EIp_lst, EIp_tup, EIp_att, EIp_call, EIp_meth, EIp_comp, EIp_bin, SSp_skip, SSp_nil, SSp_seq, SSp_ex, SSp_ret, SSp_retN, SSp_set, SSp_par, SSp_sct, SSp_ite, SSp_forr, TF_ins, TL_lst, SSp_forw, SSp_whl, SSp_brk, SSp_cnt, SSp_gho, SSp_aug, SSp_sti, SSp_sta, RR_endS, ↓EE_var, ↓EE_con, ↓EE_glo, ↓EE_bin, ↓EE_adm, ↓EE_neg, ↓EE_cmp, ↓EE_chn, ↓EE_and, ↓ET_and, ↓EE_or, ↓ET_or, ↓EE_not, ↓ET_not, ↓EE_one, ↓ET_one, ↓EE_ife, ↓EE_sub, ↓EP_non, ↓EP_con, ↓EP_var, ↓EP_bin, ↓EP_blt, ↓EP_neg, ↓EP_sub, ↓EP_call, ↓EP_att, ↓EP_lni, ↓EP_glo, ↓EE_sli, ↓EE_rev, ↓EE_non, ↓EE_tup, ↓EE_lst, ↓EE_mls, ↓EA_nil, ↓EA_cons, ↓EA_star, ↓EE_blt, ↓EE_isi, ↓EE_join, ↓EE_call, ↓EE_calS, ↓EE_makS, ↓EE_calK, ↓EE_make, ↓EE_meth, ↓EE_att, ↓EE_lni, ↓EE_cat, ↓EE_mli, ↓EE_comp, ↓EE_mco, ↓EE_fsp, ↓EA_fpn, ↓EA_fpc, ↓EE_fmt, ↓EE_frz, ↓EE_app, ↓EI_rn1, ↓EI_rn2, ↓EI_enm, ↓EI_zip, ↓RR_fe, ↓RR_ft, ↓RR_fa, ↓RR_fi, ↓RS_fs, ↓ET_var, ↓ET_con, ↓ET_cmp, ↓ET_chn, ↓ET_call, ↓ET_meth, ↓ET_att, ↓ET_blt, ↓ET_isi, ↓EI_ife, ↓EI_var, ↓EI_glo, ↓EI_con, ↓EI_sub, ↓EI_sli, ↓EI_rev, ↓EI_lst, ↓EI_tup, ↓EI_att, ↓EI_call, ↓EI_meth, ↓EI_comp, ↓EI_bin, ↓SS_skip, ↓SS_nil, ↓SS_seq, ↓SS_ex, ↓SS_ret, ↓SS_retN, ↓SS_set, ↓SS_par, ↓SS_sct, ↓SS_ite, ↓SS_forr, ↓SS_forw, ↓SS_whl, ↓SS_brk, ↓SS_cnt, ↓SS_gho, ↓SS_aug, ↓SS_sti, ↓SS_sta, LS_lst, LS_ro, LM_lst, LI_ins, TH_at, TN_at, SQ_at, add_int, add_str, add_lst, add_tup, adm_at, adm_lst, sub_int, mul_int, mul_lst, mul_chr, div_int, mod_int, pow_int, shl_int, neg_int, cEq_int, cNe_int, cLt_int, cLe_int, cGt_int, cGe_int, cIs_non, cIsN_non, cIn_tup, cIn_lst, cNi_tup, cNi_lst, sub_lst, sub_tup, sub_str, sub_at, sli_lst, sli_tup, sli_str, sli_at, rev_lst, rev_tup, sti_at, sta_at, len_lst, len_tup, len_str, len_at, all_lst, any_lst, sum_lst, max_int, min_int, abs_int, str_int, int_int, int_bl, list_any, tuple_lst, tuple_tup, join_lst, fmt_val, fmt_vali, fmt_lft, fmt_rgt, frz_non, frz_bl, frz_int, frz_str, frz_lst, frz_tup, frz_ins, LF_lst, LF_ins, frz_at, aug_add, aug_sub, BO_any, AT_nil, AT_cons, ty_NoneType_bool, ty_NoneType_int, ty_NoneType_str, ty_NoneType_list, ty_NoneType_tuple, ty_bool_bool, ty_bool_int, ty_bool_str, ty_bool_list, ty_bool_tuple, ty_int_bool, ty_int_int, ty_int_str, ty_int_list, ty_int_tuple, ty_str_bool, ty_str_int, ty_str_str, ty_str_list, ty_str_tuple, ty_list_bool, ty_list_int, ty_list_str, ty_list_list, ty_list_tuple, ty_tuple_bool, ty_tuple_int, ty_tuple_str, ty_tuple_list, ty_tuple_tuple, ty_NoneType_c, ty_bool_c, ty_int_c, ty_str_c, ty_list_c, ty_tuple_c, at0, at1, at2, at3, at4, ix5_1, ix5_2, ix5_3, ix5_4, bools_map, ints_map, strs_map, cEq_str, cNe_str, eqF_str, eqF_int, cEq_bl, cNe_bl, List.getElem?_cons_zero, List.getElem?_cons_succ, List.set_cons_zero, List.set_cons_succ, List.length_cons, List.length_nil, bindG, bindG.binds, setP, wipeE, if_true, if_false, Nat.reduceAdd, Int.reduceAdd, Int.reduceSub, Int.reduceMul, Int.reduceNeg, Nat.reduceSub, true_implies, forall_const, Bool.false_eq_true, false_implies, and_true, true_and, not_true_eq_false, Bool.true_eq_false, isNon, Bool.not_true, Bool.not_false, reduceCtorEq, List.isEmpty_cons, List.isEmpty_nil, putD, Nat.zero_add, and_self, implies_true, flatD, List.all_cons, List.all_nil, List.any_cons, List.any_nil, decide_true, decide_false, Bool.or_false, Bool.or_true, Bool.true_or, Bool.false_or, Bool.and_true, Bool.true_and, Bool.and_false, Bool.false_and, Bool.and_self, Bool.or_self, tb_cl, tb_fld_0_3, tb_mth_0_1, tb_mth_0_2, tb_mth_0_6, tb_cat_0_5, tb_cat_0_4, tb_wlk_0_0, tb_lnm_0, tb_ini_0, tb_gl_0, tb_gl_1, tb_gl_2, tb_gl_3, tb_ck_0, dx_taps, dx_blend, dx_thin, dx_stretch, dx_gate])
local macro_rules | `(tactic| array_get_dec) => `(tactic| simp (decide := true) only [bindG, List.length_cons, List.length_nil, if_true, List.set_cons_zero, List.set_cons_succ, BO_some, RS_fs, SS_seq])
/-- taps less 1 -/
def Bx.span : Bx → Int
  | .taps l => l.length - 1
  | .blend a b => (if (b.length : Int) > a.length then (b.length : Int) else a.length) - 1
  | _ => 0
theorem Bx.span_nn {x : Bx} (h : x.Ok) : 0 ≤ x.span := by
  cases x with
  | taps l => have := h.pos; simp [Bx.span]; omega
  | blend a b => have := h.1.pos; have := h.2.pos; simp only [Bx.span]; split <;> omega
  | _ => exact Int.le_refl _
theorem Bx.span_le {x : Bx} (h : x.Ok) : x.span ≤ 8 := by
  cases x with
  | taps l => have := h.len; simp [Bx.span]; omega
  | blend a b => have := h.1.len; have := h.2.len; simp only [Bx.span]; split <;> omega
  | _ => simp [Bx.span]
theorem box_span_ok {x : Bx} (k : Nat) {W : Wd} {Q : Cn D} {X : Cx} (q : Q (.int x.span) W) : RR (clS (k + 1) 9 [x.d] W) Q X := by
  rw [u__law_box_span]
  unfold s__law_box_span
  cases x with
  | taps l =>
    try sizeOf_list_dec
    simp only [List.length_map]
    rw [show ((l.length + 1 : Nat) : Int) - 2 = (Bx.taps l).span by simp only [Bx.span]; omega]
    exact q
  | blend a b =>
    try sizeOf_list_dec
    simp only [List.length_map]
    exact q
  | thin => sizeOf_list_dec; exact q
  | stretch => sizeOf_list_dec; exact q
  | gate => sizeOf_list_dec; exact q
/-! ### rates in turns -/
def rateD (r : Bool) : D := .str (if r then tThin else tStretch)
def Bx.rate (r : Bool) : Bx := if r then .thin else .stretch
/-- the last rate behind some boxes, if they may stand so; f: whether the first rate is a thin -/
def scan (f : Bool) : Option Bool → List Bx → Option (Option Bool)
  | s, [] => some s
  | s, .taps _ :: r => scan f s r
  | s, .thin :: r => if s = some true ∨ (s = none ∧ f = false) then none else scan f (some true) r
  | s, .stretch :: r => if s = some false ∨ (s = none ∧ f = true) then none else scan f (some false) r
  | s, .gate :: r => if s = some true ∨ (s = none ∧ f = false) then scan f s r else none
  | s, .blend _ _ :: r => if s = some true ∨ (s = none ∧ f = false) then scan f s r else none
theorem scan_app {f : Bool} : ∀ {a b : List Bx} {s t : Option Bool}, scan f s a = some t → scan f s (a ++ b) = scan f t b
  | [], b, s, t, h => by cases h; rfl
  | x :: a, b, s, t, h => by
    cases x <;> simp only [scan, List.cons_append] at h ⊢
    case taps l => exact scan_app h
    all_goals
      split at h
      · first | cases h | (rename_i q; simp only [q, if_true]; exact scan_app h)
      · first | cases h | (rename_i q; simp only [q, if_false]; exact scan_app h)
def spanSum (bs : List Bx) : Int := (bs.map Bx.span).sum
theorem spanSum_app {a b : List Bx} : spanSum (a ++ b) = spanSum a + spanSum b := by
  unfold spanSum
  rw [List.map_append, List.sum_append]
/-- boxes as they are drawn -/
structure Good (bs : List Bx) : Prop where
  ok : ∀ x ∈ bs, x.Ok
  sc : ∃ f s, scan f none bs = some s
  sp : spanSum bs ≤ 12
  len : bs.length ≤ 10
def sorts : List (List Bool) := [[], [true], [false], [true, false], [false, true], [true, false, true], [false, true, false, true], [true, false, true, false]]
/-- the rate ahead of the i-th part -/
def stAt (rs : List Bool) (i : Nat) : Option Bool := match i with
  | 0 => none
  | i + 1 => rs[i]?
def fAt (rs : List Bool) : Bool := match rs with
  | [] => false
  | r :: _ => r
def fastAt (rs : List Bool) (i : Nat) : Bool := rs[i]? == some true || (i == rs.length && stAt rs i == some false)
theorem slow_at : ∀ rs ∈ sorts, ∀ i, i < 6 → i ≤ rs.length → fastAt rs i = false → stAt rs i = some true ∨ (stAt rs i = none ∧ fAt rs = false) := by decide
theorem rate_at : ∀ rs ∈ sorts, ∀ i, i < 6 → ∀ h : i < rs.length, scan (fAt rs) (stAt rs i) [Bx.rate rs[i]] = some (stAt rs (i + 1)) := by decide
theorem sorts_len : ∀ rs ∈ sorts, rs.length ≤ 4 := by decide
theorem cut1 {l : List D} {i : Nat} : cutD l (some (i : Int)) (some ((i : Int) + 1)) = l[i]?.toList := by
  unfold cutD
  simp only [HT.sIx, if_neg (show ¬ (i : Int) < 0 by omega), if_neg (show ¬ (i : Int) + 1 < 0 by omega), Int.toNat_natCast, show ((i : Int) + 1).toNat = i + 1 by omega]
  by_cases h : i < l.length
  · rw [Nat.min_eq_left (by omega), Nat.min_eq_left (by omega), show i + 1 - i = 1 by omega, List.getElem?_eq_getElem h, List.drop_eq_getElem_cons h]
    rfl
  · rw [List.getElem?_eq_none (by omega), Nat.min_eq_right (by omega), Nat.min_eq_right (by omega), Nat.sub_self, List.take_zero]
    rfl
theorem eqv1 {W : Wd} {o : Option D} {r : Bool} {z : List Nat} (hz : okS z = true) (h : o = none ∨ o = some (rateD r)) : eqvD W (.lst o.toList) (.lst [.str z]) = some (o.any fun d => match d with | .str y => decide (y = z) | _ => false) := by
  have sh : ∀ y, okS y = true → SeqAt.shaped (.list [.str ⟨y.toArray⟩]) = true := fun y hy => by
    unfold SeqAt.shaped PyData.canLay0 PyData.canLayAll0 PyData.canLay0 PyData.strOk
    simp [PyData.canLayAll0, PyData.depth, PyData.depthAll]
    intro x hx
    have := List.all_eq_true.mp hy x hx
    simpa using this
  rcases h with rfl | rfl
  · unfold eqvD
    simp only [look, Option.toList, toPy, toPys, Option.map_some]
    rw [sh z hz]
    rfl
  · have hr : okS (if r then tThin else tStretch) = true := by cases r <;> decide
    unfold eqvD rateD
    simp only [look, Option.toList, toPy, toPys, Option.map_some]
    rw [sh z hz, sh _ hr]
    simp only [Bool.and_self, if_true, Option.any_some]
    have e2 : ∀ x y : List Nat, PyData.eqv (.str ⟨x.toArray⟩) (.str ⟨y.toArray⟩) = decide (x = y) := fun x y => by
      show ((⟨x.toArray⟩ : Str) == ⟨y.toArray⟩) = decide (x = y)
      by_cases h : x = y
      · subst h; simp
      · have h2 : (⟨x.toArray⟩ : Str) ≠ ⟨y.toArray⟩ := fun q => h (by simpa using congrArg (fun s : Str => s.cps.toList) q)
        rw [beq_eq_false_iff_ne.mpr h2, decide_eq_false h]
    show some (PyData.eqv _ _ && true) = _
    rw [e2, Bool.and_true]
theorem cut2 {rs : List Bool} {i : Nat} (h : i = rs.length) : cutD (rs.map rateD) (some ((i : Int) - 1)) (some (i : Int)) = ((stAt rs i).map rateD).toList := by
  cases i with
  | zero =>
    have e : rs = [] := List.length_eq_zero_iff.mp h.symm
    subst e
    rfl
  | succ j =>
    rw [show ((j + 1 : Nat) : Int) - 1 = (j : Int) by omega, show ((j + 1 : Nat) : Int) = (j : Int) + 1 by omega, cut1, List.getElem?_map]
    rfl
theorem any_rate {o : Option Bool} : (Option.any (fun d => match d with
    | D.str y => decide (y = tThin)
    | _ => false) (Option.map rateD o)) = (o == some true) := by
  cases o with
  | none => rfl
  | some r => cases r <;> rfl
theorem any_rate2 {o : Option Bool} : (Option.any (fun d => match d with
    | D.str y => decide (y = tStretch)
    | _ => false) (Option.map rateD o)) = (o == some false) := by
  cases o with
  | none => rfl
  | some r => cases r <;> rfl
theorem cD_nil {k : Int} : cutD [] none (some k) = [] := by unfold cutD; simp
theorem any_boxes_ok {W : Wd} {b c : Nat} (B : Bag W b (c + 2000)) (k : Nat) {Q : Cn D} {X : Cx}
    (q : ∀ (bs : List Bx) (W1 : Wd), Good bs → Bag W1 b c → Frm [b] W W1 → Q (.lst (bs.map Bx.d)) W1) : RR (clS (k + 1 + 1 + 1 + 1 + 1) 5 [.hd b, .int 1] W) Q X := by
  have hbl : b < W.length := by
    obtain ⟨cells, a, r, m, n, hb, _⟩ := B
    exact lt_of_get hb
  rw [u__law_any_boxes]
  unfold s__law_any_boxes
  refine SS_seq.mpr (SS_cut (P := fun e W1 => W1 = W ∧ e = [some (.hd b), some (.int 1), some (.lst (sorts.map fun rs => .lst (rs.map rateD))), none, none, none, none, none, none, none]) ?_ ?_)
  · try sizeOf_list_dec
    exact rfl
  rintro e W1 ⟨rfl, rfl⟩
  dsimp only
  refine SS_seq.mpr (SS_cut (P := fun e W2 => ∃ rs ∈ sorts, ∃ h, b < h ∧ W1.length ≤ h ∧ e = [some (.hd b), some (.int 1), some (.lst (sorts.map fun rs => .lst (rs.map rateD))), some (.lst (rs.map rateD)), some (.hd h), some (.int 12), none, none, none, none] ∧ W2[h]? = some (.lst []) ∧ Bag W2 b (c + 1900) ∧ Frm [b] W1 W2) ?_ ?_)
  · try sizeOf_list_dec
    refine of_ok (B.mono (show c + 1900 + 1 ≤ _ by omega)) (by simp [sorts]) (by simp [sorts]) _ fun i hi W2 B2 F2 => ?_
    try sizeOf_list_dec
    rw [List.length_map] at hi
    refine ⟨sorts[i], List.getElem_mem hi, W2.length, ?_, F2.len, ?_, get_app, B2.frm (Frm.app (S := []) _) (by simp), F2.trans (Frm.app _)⟩
    · have := F2.len; omega
    · rw [List.getElem_map]
  intro e W2 hx
  obtain ⟨rs, hrs, h, hbh, hWh, he, hW2, B2, F2⟩ := hx
  subst he
  dsimp only
  have hl4 := sorts_len rs hrs
  refine SS_seq.mpr (SS_cut (P := fun e W3 => ∃ h bs room x6 x7 x8 x9, W1.length ≤ h ∧ e = [some (.hd b), some (.int 1), some (.lst (sorts.map fun rs => .lst (rs.map rateD))), some (.lst (rs.map rateD)), some (.hd h), some (.int room), x6, x7, x8, x9] ∧ W3[h]? = some (.lst (bs.map Bx.d)) ∧ Good bs ∧ Bag W3 b c ∧ Frm [b] W1 W3) ?_ ?_)
  · try sizeOf_list_dec
    refine ⟨by unfold small62; simp; omega, ?_⟩
    have hbW : ∀ h, W1.length ≤ h → b ≠ h := fun h hh => by omega
    obtain ⟨cc, hcc⟩ : ∃ cc, cc = if rs.length < 2 then 2 else 1 := ⟨_, rfl⟩
    have hcc2 : cc ≤ 2 := by subst hcc; split <;> omega
    refine for_ok (fun rest e W3 => ∃ i m h bs room x6 x7 x8 x9 s, rest = rangeL 0 1 i m ∧ i + m = rs.length + 1 ∧ W1.length ≤ h ∧
      e = [some (.hd b), some (.int 1), some (.lst (sorts.map fun rs => .lst (rs.map rateD))), some (.lst (rs.map rateD)), some (.hd h), some (.int room), x6, x7, x8, x9] ∧
      W3[h]? = some (.lst (bs.map Bx.d)) ∧ (∀ x ∈ bs, x.Ok) ∧ scan (fAt rs) none bs = some s ∧ (i ≤ rs.length → s = stAt rs i) ∧ spanSum bs + room = 12 ∧ 0 ≤ room ∧ bs.length ≤ i * (cc + 1) ∧ Bag W3 b (c + m * 300) ∧ Frm [b] W1 W3) ?_ ?_ ?_
    · exact ⟨0, rs.length + 1, h, [], 12, none, none, none, none, none, by rw [List.length_map]; rfl, by omega, hWh, rfl, hW2, by simp, rfl, fun _ => rfl, rfl, by decide, by simp, B2.mono (by omega), F2⟩
    · rintro x rest e W3 ⟨i, m, h, bs, room, x6, x7, x8, x9, s, hr, him, hh, rfl, hW, hok, hsc, hs, hsp, hrm, hlen, B3, F3⟩
      cases m with
      | zero => cases hr
      | succ m =>
        rw [rangeL_cons] at hr
        obtain ⟨rfl, rfl⟩ := List.cons.inj hr
        have hi : i ≤ rs.length := by omega
        have hs := hs hi
        subst hs
        have ei : (0 : Int) + (i : Int) * 1 = i := by omega
        array_get_dec
        rw [ei]
        -- whether the part is fast
        refine SS_cut (P := fun e W4 => W4 = W3 ∧ e = [some (.hd b), some (.int 1), some (.lst (sorts.map fun rs => .lst (rs.map rateD))), some (.lst (rs.map rateD)), some (.hd h), some (.int room), some (.int i), some (.bl (fastAt rs i)), x8, x9]) ?_ ?_
        · try sizeOf_list_dec
          rw [cut1, List.getElem?_map]
          have o1 : Option.map rateD rs[i]? = none ∨ Option.map rateD rs[i]? = some (rateD (rs[i]?.getD true)) := by
            cases rs[i]? <;> simp
          rw [cEq_D, eqv1 (by decide) o1]
          rw [any_rate]
          try sizeOf_list_dec
          refine ⟨fun hv => ?_, fun hv => ?_⟩
          · try sizeOf_list_dec
            have e : fastAt rs i = true := by unfold fastAt; rw [hv]; rfl
            rw [e, hv]
          · try sizeOf_list_dec
            rw [List.length_map]
            refine ⟨fun hi2 => ?_, fun hi2 => ?_⟩
            · have hi2 : i = rs.length := by simp at hi2; omega
              try sizeOf_list_dec
              rw [cut2 hi2, cEq_D, eqv1 (r := (stAt rs i).getD true) (by decide) (by cases stAt rs i <;> simp), any_rate2]
              try sizeOf_list_dec
              have e : fastAt rs i = (stAt rs i == some false) := by
                unfold fastAt
                rw [hv, beq_iff_eq.mpr hi2]
                simp
              rw [e]
            · try sizeOf_list_dec
              have hi2 : i ≠ rs.length := by simp at hi2; omega
              have e : fastAt rs i = false := by
                unfold fastAt
                rw [hv, beq_eq_false_iff_ne.mpr hi2]
                rfl
              rw [e]
              have e2 : decide ((i : Int) = rs.length) = false := by simp; omega
              rw [e2]
        rintro e W4 ⟨rfl, rfl⟩
        dsimp only
        -- its boxes
        refine SS_seq.mpr (SS_cut (P := fun e W5 => ∃ h bs room x8 x9, W1.length ≤ h ∧
          e = [some (.hd b), some (.int 1), some (.lst (sorts.map fun rs => .lst (rs.map rateD))), some (.lst (rs.map rateD)), some (.hd h), some (.int room), some (.int i), some (.bl (fastAt rs i)), x8, x9] ∧
          W5[h]? = some (.lst (bs.map Bx.d)) ∧ (∀ x ∈ bs, x.Ok) ∧ scan (fAt rs) none bs = some (stAt rs i) ∧ spanSum bs + room = 12 ∧ 0 ≤ room ∧ bs.length ≤ i * (cc + 1) + cc ∧ Bag W5 b (c + m * 300 + 100) ∧ Frm [b] W1 W5) ?_ ?_)
        · try sizeOf_list_dec
          rw [List.length_map]
          have c1 : decide ((rs.length : Int) < 2) = true → (3 : Int) ≤ cc + 1 := fun hv => by
            have hv : rs.length < 2 := by simp at hv; omega
            rw [hcc, if_pos hv]; decide
          have c2 : decide ((rs.length : Int) < 2) = false → (2 : Int) ≤ cc + 1 := fun hv => by
            have hv : ¬ rs.length < 2 := by simp at hv; omega
            rw [hcc, if_neg hv]; decide
          refine (fun (go : ∀ w : Int, 0 < w → w ≤ 3 → w ≤ cc + 1 → RR (clS (k + 4) 8 [D.hd b, D.int w] W4) _ X) => ⟨fun hv => go 3 (by decide) (by decide) (c1 hv), fun hv => go 2 (by decide) (by decide) (c2 hv)⟩) ?_
          intro w hw1 hw2 hw3
          refine draw_ok (B3.mono (show c + m * 300 + 280 + 1 ≤ _ by omega)) hw1 (by omega) _ fun j W5 h0 h1 B5 F5 => ?_
          try sizeOf_list_dec
          refine ⟨by unfold small62; simp; omega, ?_⟩
          refine for_ok (fun rest e W6 => ∃ t n h bs room x8 x9, rest = rangeL 0 1 t n ∧ t + n = j.toNat ∧ W1.length ≤ h ∧
            e = [some (.hd b), some (.int 1), some (.lst (sorts.map fun rs => .lst (rs.map rateD))), some (.lst (rs.map rateD)), some (.hd h), some (.int room), some (.int i), some (.bl (fastAt rs i)), x8, x9] ∧
            W6[h]? = some (.lst (bs.map Bx.d)) ∧ (∀ x ∈ bs, x.Ok) ∧ scan (fAt rs) none bs = some (stAt rs i) ∧ spanSum bs + room = 12 ∧ 0 ≤ room ∧ bs.length ≤ i * (cc + 1) + t ∧ Bag W6 b (c + m * 300 + 100 + n * 60) ∧ Frm [b] W1 W6) ?_ ?_ ?_
          · exact ⟨0, j.toNat, h, bs, room, x8, x9, rfl, by omega, hh, rfl, F5.at_ h _ (by simpa using fun e => hbW h hh e.symm) hW, hok, hsc, hsp, hrm, hlen, B5.mono (by omega), F3.trans F5⟩
          · rintro x rest e W6 ⟨t, n, h, bs, room, x8, x9, hr, htn, hh, rfl, hW, hok, hsc, hsp, hrm, hlen, B6, F6⟩
            cases n with
            | zero => cases hr
            | succ n =>
              rw [rangeL_cons] at hr
              obtain ⟨rfl, rfl⟩ := List.cons.inj hr
              array_get_dec
              refine SS_cut (P := fun e W7 => ∃ x : Bx, x.Ok ∧ scan (fAt rs) (stAt rs i) [x] = some (stAt rs i) ∧ e = [some (.hd b), some (.int 1), some (.lst (sorts.map fun rs => .lst (rs.map rateD))), some (.lst (rs.map rateD)), some (.hd h), some (.int room), some (.int i), some (.bl (fastAt rs i)), some (.int (0 + (t : Nat) * 1)), some x.d] ∧ Bag W7 b (c + m * 300 + 100 + n * 60) ∧ Frm [b] W6 W7) ?_ ?_
              · try sizeOf_list_dec
                refine ⟨fun hf => ?_, fun hf => ?_⟩
                · try sizeOf_list_dec
                  refine any_taps_ok (B6.mono (show c + m * 300 + 100 + n * 60 + 40 ≤ _ by omega)) _ fun l W7 ho B7 F7 => ?_
                  try sizeOf_list_dec
                  exact ⟨.taps l, ho, rfl, rfl, B7, F7⟩
                · try sizeOf_list_dec
                  refine slow_box_ok (B6.mono (show c + m * 300 + 100 + n * 60 + 50 ≤ _ by omega)) _ fun x W7 ho n1 n2 B7 F7 => ?_
                  try sizeOf_list_dec
                  refine ⟨x, ho, ?_, rfl, B7, F7⟩
                  have sl := slow_at rs hrs i (by omega) hi hf
                  cases x with
                  | taps l => rfl
                  | thin => exact absurd rfl n1
                  | stretch => exact absurd rfl n2
                  | gate => simp only [scan, sl, if_true]
                  | blend p q => simp only [scan, sl, if_true]
              intro e W7 hx
              obtain ⟨x, hxo, hxs, he, B7, F7⟩ := hx
              subst he
              dsimp only
              have hW7 := F7.at_ h _ (by simpa using fun e => hbW h hh e.symm) hW
              try sizeOf_list_dec
              refine box_span_ok _ ?_
              try sizeOf_list_dec
              refine ⟨fun hv => ?_, fun hv => ?_⟩
              · repeat (first | sizeOf_list_dec | simp only [hW7])
                refine ⟨fits_of ?_, ?_⟩
                · rw [List.length_map]
                  have : i * (cc + 1) ≤ 5 * 3 := Nat.mul_le_mul (by omega) (by omega)
                  omega
                refine box_span_ok _ ?_
                try sizeOf_list_dec
                have nn := Bx.span_nn hxo
                have le := of_decide_eq_true hv
                refine ⟨t + 1, n, W7.length, bs ++ [x], room - x.span, _, _, rfl, by omega, by have := F6.len; have := F7.len; omega, rfl, ?_, ?_, ?_, ?_, by omega, ?_, B7.frm (Frm.app (S := []) _) (by simp), (F6.trans F7).trans (Frm.app _)⟩
                · rw [get_app, List.map_append]; rfl
                · intro y hy
                  rcases List.mem_append.mp hy with z | z
                  · exact hok y z
                  · simp at z; subst z; exact hxo
                · rw [scan_app hsc]; exact hxs
                · rw [spanSum_app]
                  have : spanSum [x] = x.span := by simp [spanSum]
                  omega
                · rw [List.length_append, List.length_singleton]; omega
              · try sizeOf_list_dec
                exact ⟨t + 1, n, h, bs, room, _, _, rfl, by omega, hh, rfl, hW7, hok, hsc, hsp, hrm, by omega, B7, F6.trans F7⟩
          · rintro e W6 ⟨t, n, h, bs, room, x8, x9, hr, htn, hh, rfl, hW, hok, hsc, hsp, hrm, hlen, B6, F6⟩
            cases n with
            | succ n => cases hr
            | zero => exact ⟨h, bs, room, x8, x9, hh, rfl, hW, hok, hsc, hsp, hrm, by omega, B6.mono (by omega), F6⟩
        intro e W5 hx
        obtain ⟨h, bs, room, x8, x9, hh, he, hW, hok, hsc, hsp, hrm, hlen, B5, F5⟩ := hx
        subst he
        dsimp only
        try sizeOf_list_dec
        rw [List.length_map]
        refine ⟨fun hv => ?_, fun hv => ?_⟩
        · have hv : i < rs.length := by simp at hv; omega
          repeat (first | sizeOf_list_dec | simp only [hW])
          rw [atI_nat, List.getElem?_map, List.getElem?_eq_getElem hv]
          repeat (first | sizeOf_list_dec | simp only [hW, Option.map_some])
          refine ⟨fits_of (by
            rw [List.length_map]
            have : i * (cc + 1) ≤ 5 * 3 := Nat.mul_le_mul (by omega) (by omega)
            omega), ?_⟩
          have er : D.tup [rateD rs[i]] = (Bx.rate rs[i]).d := by cases rs[i] <;> rfl
          refine ⟨i + 1, m, h, bs ++ [Bx.rate rs[i]], room, _, _, _, _, stAt rs (i + 1), rfl, by omega, hh, rfl, ?_, ?_, ?_, fun _ => rfl, ?_, hrm, ?_, (B5.frm (Frm.set (S := [h]) (by simp)) (by simpa using hbW h hh)).mono (by omega), ((F5.mono (S' := [h, b]) (by simp)).trans (Frm.set (by simp))).drop hh⟩
          · rw [get_set hW, List.map_append, er]; rfl
          · intro y hy
            rcases List.mem_append.mp hy with z | z
            · exact hok y z
            · simp at z; subst z
              cases rs[i] <;> exact trivial
          · rw [scan_app hsc]; exact rate_at rs hrs i (by omega) hv
          · rw [spanSum_app]
            have : spanSum [Bx.rate rs[i]] = 0 := by cases rs[i] <;> rfl
            omega
          · rw [List.length_append, List.length_singleton, Nat.add_mul]; omega
        · have hv : ¬ i < rs.length := by simp at hv; omega
          try sizeOf_list_dec
          refine ⟨i + 1, m, h, bs, room, _, _, _, _, stAt rs i, rfl, by omega, hh, rfl, hW, hok, hsc, fun hq => absurd hq (by omega), hsp, hrm, ?_, B5.mono (by omega), F5⟩
          rw [Nat.add_mul]; omega
    · rintro e W3 ⟨i, m, h, bs, room, x6, x7, x8, x9, s, hr, him, hh, rfl, hW, hok, hsc, hs, hsp, hrm, hlen, B3, F3⟩
      cases m with
      | succ m => cases hr
      | zero =>
        refine ⟨h, bs, room, x6, x7, x8, x9, hh, rfl, hW, ⟨hok, ⟨_, _, hsc⟩, by omega, ?_⟩, B3.mono (by omega), F3⟩
        have e1 : i = rs.length + 1 := by omega
        subst e1
        refine Nat.le_trans hlen ?_
        subst hcc
        match hq : rs.length, hl4 with
        | 0, _ => simp [hq]
        | 1, _ => simp [hq]
        | 2, _ => simp [hq]
        | 3, _ => simp [hq]
        | 4, _ => simp [hq]
  intro e W3 hx
  obtain ⟨h, bs, room, x6, x7, x8, x9, hh, he, hW, G, B3, F3⟩ := hx
  subst he
  repeat (first | sizeOf_list_dec | simp only [hW])
  have hb3 : b ≠ h := by omega
  exact q bs _ G (B3.frm (S := [h]) (Frm.set (by simp)) (by simpa using hb3)) ((F3.mono (S' := [h, b]) (by simp)).trans (Frm.set (by simp)) |>.drop hh)
end Kx
end VI
-- P4
set_option Elab.async false
set_option linter.all false
set_option maxRecDepth 100000
set_option maxHeartbeats 0
namespace VI
open PySem PySem.Spec PyProof.Rows L2
namespace Kx
local macro_rules | `(tactic| sizeOf_list_dec) => `(tactic| simp (decide := true) only [RR_ok, RR_exc, RR_no, RR_bind, RS_nx, RS_ret, RS_brk, RS_ct, RS_exc, RS_no, RS_on, RS_then, BO_some, BO_none, RR_rBo, RR_rB, EV_some, TR_bl, TR_int, TR_non, TR_lst, TR_tup, IT_lst, IT_tup, IT_str, EEp_var, EEp_con, EEp_glo, EEp_bin, EEp_adm, EEp_neg, EEp_cmp, TB_bl, EEp_chn, EEp_and, ETp_and, EEp_or, ETp_or, EEp_not, ETp_not, EEp_one, ETp_one, EEp_ife, EEp_sub, EPp_non, TI_int, EPp_of, EPp_con, EPp_var, EPp_bin, EPp_blt, EPp_neg, EPp_sub, EPp_call, EPp_att, EPp_lni, EPp_glo, EEp_sli, EEp_rev, EEp_non, EEp_tup, EEp_lst, EEp_mls, EAp_nil, EAp_cons, SQ_lst, SQ_tup, EAp_star, EEp_blt, EEp_isi, TS_str, EEp_join, EEp_call, EEp_calS, EEp_makS, EEp_calK, EEp_make, TN_ins, EEp_meth, EEp_att, EEp_lni, EEp_cat, EEp_mli, EEp_comp, EEp_mco, EEp_fsp, EAp_fpn, EAp_fpc, EEp_fmt, EEp_frz, EEp_app, EIp_rn1, EIp_rn2, TQ_lst, TQ_tup, EIp_enm, TZ_lst, TZ_tup, EIp_zip, RR_fep, RR_ftp, RR_fap, RR_fip, RS_fsp, ETp_var, ETp_con, ETp_cmp, ETp_chn, ETp_call, ETp_meth, ETp_att, ETp_blt, ETp_isi, EIp_ife, EIp_var, EIp_glo, EIp_con, EIp_sub, EIp_sli, EIp_rev, EIp_lst, EIp_tup, EIp_att, EIp_call, EIp_meth, EIp_comp, EIp_bin, SSp_skip, SSp_nil, SSp_seq, SSp_ex, SSp_ret, SSp_retN, SSp_set, SSp_par, SSp_sct, SSp_ite, SSp_forr, TF_ins, TL_lst, SSp_forw, SSp_whl, SSp_brk, SSp_cnt, SSp_gho, SSp_aug, SSp_sti, SSp_sta, RR_endS, ↓EE_var, ↓EE_con, ↓EE_glo, ↓EE_bin, ↓EE_adm, ↓EE_neg, ↓EE_cmp, ↓EE_chn, ↓EE_and, ↓ET_and, ↓EE_or, ↓ET_or, ↓EE_not, ↓ET_not, ↓EE_one, ↓ET_one, ↓EE_ife, ↓EE_sub, ↓EP_non, ↓EP_con, ↓EP_var, ↓EP_bin, ↓EP_blt, ↓EP_neg, ↓EP_sub, ↓EP_call, ↓EP_att, ↓EP_lni, ↓EP_glo, ↓EE_sli, ↓EE_rev, ↓EE_non, ↓EE_tup, ↓EE_lst, ↓EE_mls, ↓EA_nil, ↓EA_cons, ↓EA_star, ↓EE_blt, ↓EE_isi, ↓EE_join, ↓EE_call, ↓EE_calS, ↓EE_makS, ↓EE_calK, ↓EE_make, ↓EE_meth, ↓EE_att, ↓EE_lni, ↓EE_cat, ↓EE_mli, ↓EE_comp, ↓EE_mco, ↓EE_fsp, ↓EA_fpn, ↓EA_fpc, ↓EE_fmt, ↓EE_frz, ↓EE_app, ↓EI_rn1, ↓EI_rn2, ↓EI_enm, ↓EI_zip, ↓RR_fe, ↓RR_ft, ↓RR_fa, ↓RR_fi, ↓RS_fs, ↓ET_var, ↓ET_con, ↓ET_cmp, ↓ET_chn, ↓ET_call, ↓ET_meth, ↓ET_att, ↓ET_blt, ↓ET_isi, ↓EI_ife, ↓EI_var, ↓EI_glo, ↓EI_con, ↓EI_sub, ↓EI_sli, ↓EI_rev, ↓EI_lst, ↓EI_tup, ↓EI_att, ↓EI_call, ↓EI_meth, ↓EI_comp, ↓EI_bin, ↓SS_skip, ↓SS_nil, ↓SS_seq, ↓SS_ex, ↓SS_ret, ↓SS_retN, ↓SS_set, ↓SS_par, ↓SS_sct, ↓SS_ite, ↓SS_forr, ↓SS_forw, ↓SS_whl, ↓SS_brk, ↓SS_cnt, ↓SS_gho, ↓SS_aug, ↓SS_sti, ↓SS_sta, LS_lst, LS_ro, LM_lst, LI_ins, TH_at, TN_at, SQ_at, add_int, add_str, add_lst, add_tup, adm_at, adm_lst, sub_int, mul_int, mul_lst, mul_chr, div_int, mod_int, pow_int, shl_int, neg_int, cEq_int, cNe_int, cLt_int, cLe_int, cGt_int, cGe_int, cIs_non, cIsN_non, cIn_tup, cIn_lst, cNi_tup, cNi_lst, sub_lst, sub_tup, sub_str, sub_at, sli_lst, sli_tup, sli_str, sli_at, rev_lst, rev_tup, sti_at, sta_at, len_lst, len_tup, len_str, len_at, all_lst, any_lst, sum_lst, max_int, min_int, abs_int, str_int, int_int, int_bl, list_any, tuple_lst, tuple_tup, join_lst, fmt_val, fmt_vali, fmt_lft, fmt_rgt, frz_non, frz_bl, frz_int, frz_str, frz_lst, frz_tup, frz_ins, LF_lst, LF_ins, frz_at, aug_add, aug_sub, BO_any, AT_nil, AT_cons, ty_NoneType_bool, ty_NoneType_int, ty_NoneType_str, ty_NoneType_list, ty_NoneType_tuple, ty_bool_bool, ty_bool_int, ty_bool_str, ty_bool_list, ty_bool_tuple, ty_int_bool, ty_int_int, ty_int_str, ty_int_list, ty_int_tuple, ty_str_bool, ty_str_int, ty_str_str, ty_str_list, ty_str_tuple, ty_list_bool, ty_list_int, ty_list_str, ty_list_list, ty_list_tuple, ty_tuple_bool, ty_tuple_int, ty_tuple_str, ty_tuple_list, ty_tuple_tuple, ty_NoneType_c, ty_bool_c, ty_int_c, ty_str_c, ty_list_c, ty_tuple_c, at0, at1, at2, at3, at4, ix5_1, ix5_2, ix5_3, ix5_4, bools_map, ints_map, strs_map, cEq_str, cNe_str, eqF_str, eqF_int, cEq_bl, cNe_bl, List.getElem?_cons_zero, List.getElem?_cons_succ, List.set_cons_zero, List.set_cons_succ, List.length_cons, List.length_nil, bindG, bindG.binds, setP, wipeE, if_true, if_false, Nat.reduceAdd, Int.reduceAdd, Int.reduceSub, Int.reduceMul, Int.reduceNeg, Nat.reduceSub, true_implies, forall_const, Bool.false_eq_true, false_implies, and_true, true_and, not_true_eq_false, Bool.true_eq_false, isNon, Bool.not_true, Bool.not_false, reduceCtorEq, List.isEmpty_cons, List.isEmpty_nil, putD, Nat.zero_add, and_self, implies_true, flatD, List.all_cons, List.all_nil, List.any_cons, List.any_nil, decide_true, decide_false, Bool.or_false, Bool.or_true, Bool.true_or, Bool.false_or, Bool.and_true, Bool.true_and, Bool.and_false, Bool.false_and, Bool.and_self, Bool.or_self, tb_cl, tb_fld_0_3, tb_mth_0_1, tb_mth_0_2, tb_mth_0_6, tb_cat_0_5, tb_cat_0_4, tb_wlk_0_0, tb_lnm_0, tb_ini_0, tb_gl_0, tb_gl_1, tb_gl_2, tb_gl_3, tb_ck_0, dx_taps, dx_blend, dx_thin, dx_stretch, dx_gate])
local macro_rules | `(tactic| array_get_dec) => `(tactic| simp (decide := true) only [bindG, List.length_cons, List.length_nil, if_true, List.set_cons_zero, List.set_cons_succ, BO_some, RS_fs, SS_seq])
theorem is_integer_int {i : Int} (k : Nat) {W : Wd} {Q : Cn D} {X : Cx} (q : Q (.bl true) W) : RR (clS (k + 1) 15 [.int i] W) Q X := by
  rw [u_is_integer]
  unfold s_is_integer
  repeat (first | sizeOf_list_dec | simp only [BO_any])
  exact q
theorem is_number_int {i lo hi : Int} (k : Nat) {W : Wd} {Q : Cn D} {X : Cx} (q : Q (.bl (decide (lo ≤ i) && decide (i ≤ hi))) W) : RR (clS (k + 1 + 1) 16 [.int i, .int lo, .int hi] W) Q X := by
  rw [u_is_number]
  unfold s_is_number
  try sizeOf_list_dec
  refine is_integer_int k ?_
  try sizeOf_list_dec
  refine ⟨fun h => ?_, fun h => ?_⟩
  · try sizeOf_list_dec
    rw [h] at q
    exact q
  · rw [h] at q
    exact q
theorem are_taps_ok {l : List Int} {lo : Int} (h : TapsOk lo l) (k : Nat) {W : Wd} {Q : Cn D} {X : Cx} (q : Q (.bl true) W) : RR (clS (k + 1 + 1 + 1) 17 [.tup (l.map D.int), .int lo] W) Q X := by
  have h1 := h.pos
  have h2 := h.len
  rw [u_are_taps]
  unfold s_are_taps
  try sizeOf_list_dec
  simp only [List.length_map, show decide ((1 : Int) ≤ l.length) = true by simp; omega, show decide ((l.length : Int) ≤ 9) = true by simp; omega]
  try sizeOf_list_dec
  refine ⟨fits_of (by omega), ?_⟩
  refine comp_pure (f := fun _ => .bl true) (p := fun _ => true) (fun a ha => ?_) ?_
  · try sizeOf_list_dec
    refine is_number_int k ?_
    have e1 := h.ge a ha
    have e2 := h.le a ha
    simp [e1, e2]
  · rw [List.filter_eq_self.mpr (by simp)]
    try sizeOf_list_dec
    have e : (l.map fun _ => true).all id = true := by simp
    rw [e]
    try sizeOf_list_dec
    refine ⟨fits_of (by rw [List.length_map]; omega), comp_nz (by simp) ?_⟩
    try sizeOf_list_dec
    try sizeOf_list_dec
    rw [List.any_map]
    have e : l.any (id ∘ fun x => !decide (x = 0)) = true := by
      obtain ⟨x, hx, hz⟩ := h.nz
      exact List.any_eq_true.mpr ⟨x, hx, by simpa using hz⟩
    rw [e]
    exact q
theorem is_box_ok {x : Bx} (h : x.Ok) (k : Nat) {W : Wd} {Q : Cn D} {X : Cx} (q : Q (.bl true) W) : RR (clS (k + 1 + 1 + 1 + 1) 22 [x.d] W) Q X := by
  rw [u_is_box]
  unfold s_is_box
  cases x with
  | taps l =>
    repeat (first | sizeOf_list_dec | simp only [BO_any])
    have e0 : decide (((l.map D.int).length + 1 : Nat) = (0 : Int)) = false := by simp; omega
    rw [e0]
    try sizeOf_list_dec
    rw [cut_from (by decide)]
    exact are_taps_ok (show TapsOk (-99) l from h) k q
  | blend a b =>
    repeat (first | sizeOf_list_dec | simp only [BO_any])
    rw [cut_from (by decide)]
    refine ⟨fits_of (by simp), ?_⟩
    refine comp_pure (α := List Int) (l := [a, b]) (g := fun l => .tup (l.map D.int)) (f := fun _ => .bl true) (p := fun _ => true) (fun l hl => ?_) ?_
    · repeat (first | sizeOf_list_dec | simp only [BO_any])
      have hl : TapsOk 0 l := by
        simp at hl
        rcases hl with rfl | rfl
        · exact h.1
        · exact h.2
      refine are_taps_ok hl k ?_
      exact ⟨rfl, rfl⟩
    · rw [List.filter_eq_self.mpr (by simp)]
      try sizeOf_list_dec
      exact q
  | thin => repeat (first | sizeOf_list_dec | simp only [BO_any])
            exact q
  | stretch => repeat (first | sizeOf_list_dec | simp only [BO_any])
               exact q
  | gate => repeat (first | sizeOf_list_dec | simp only [BO_any])
            exact q
theorem span_of_ok {x : Bx} (k : Nat) {W : Wd} {Q : Cn D} {X : Cx} (q : Q (.int x.span) W) : RR (clS (k + 1) 19 [x.d] W) Q X := by
  rw [u_span_of]
  unfold s_span_of
  cases x with
  | taps l =>
    try sizeOf_list_dec
    simp only [List.length_map]
    rw [show ((l.length + 1 : Nat) : Int) - 2 = (Bx.taps l).span by simp only [Bx.span]; omega]
    exact q
  | blend a b =>
    try sizeOf_list_dec
    simp only [List.length_map]
    exact q
  | thin => sizeOf_list_dec; exact q
  | stretch => sizeOf_list_dec; exact q
  | gate => sizeOf_list_dec; exact q

/-! ### fast places -/
def Bx.isR : Bx → Bool
  | .thin => true
  | .stretch => true
  | _ => false
def Bx.isT : Bx → Bool
  | .thin => true
  | _ => false
def Bx.isS : Bx → Bool
  | .stretch => true
  | _ => false
def fastP (bs : List Bx) (i : Nat) : Bool := match (bs.drop (i + 1)).find? Bx.isR with
  | some y => y.isT
  | none => match (bs.take i).reverse.find? Bx.isR with
    | some y => y.isS
    | none => false
theorem fast_loop {p : Bx → Bool} {z : List Nat} (hp : ∀ x : Bx, x.isR = true → p x = decide ((match x with | .thin => tThin | _ => tStretch) = z)) (hz : okS z = true) {k : Nat} {kt : Kt} {d1 d2 : Option D} {W : Wd} : ∀ (bs : List Bx) (d3 : Option D),
    (∀ y, bs.find? Bx.isR = some y → kt.rt (.bl (p y)) W) → (bs.find? Bx.isR = none → ∀ d3, kt.nx [d1, d2, d3] W) →
    RS (forL (.nm 2) (evS (tt.tb (clS k)) (.seq (.ite (.cmp .In (.sub (.var 2) (.con (.int 0))) (.glo 3)) (.seq (.ret (.cmp .Eq (.sub (.var 2) (.con (.int 0))) (.con (.str z)))) .nil) .nil) .nil)) (bs.map Bx.d) [d1, d2, d3] W) kt := fun bs d3 h1 h2 => by
  refine for_ok (fun rest e W1 => W1 = W ∧ ∃ a b d3, bs = a ++ b ∧ rest = b.map Bx.d ∧ (∀ x ∈ a, x.isR = false) ∧ e = [d1, d2, d3]) ⟨rfl, [], bs, d3, rfl, rfl, by simp, rfl⟩ ?_ ?_
  · rintro x rest e W1 ⟨rfl, a, b, d3, hab, hr, ha, rfl⟩
    cases b with
    | nil => cases hr
    | cons y b =>
      obtain ⟨rfl, rfl⟩ := List.cons.inj hr
      have stay : y.isR = false → ∃ a_1 b_1 d3_1, bs = a_1 ++ b_1 ∧ b.map Bx.d = b_1.map Bx.d ∧ (∀ x ∈ a_1, x.isR = false) ∧ [d1, d2, some y.d] = [d1, d2, d3_1] := fun hy => by
        refine ⟨a ++ [y], b, some y.d, by rw [hab, List.append_assoc]; rfl, rfl, ?_, rfl⟩
        intro x hx
        rcases List.mem_append.mp hx with h | h
        · exact ha x h
        · simp at h; subst h; exact hy
      have out : y.isR = true → kt.rt (.bl (p y)) W1 := fun hy => h1 y (by
        rw [hab, List.find?_append, List.find?_eq_none.mpr (by intro x hx; simp [ha x hx]), List.find?_cons_of_pos hy]
        rfl)
      cases y with
      | taps l => sizeOf_list_dec; exact stay rfl
      | blend l r => sizeOf_list_dec; exact stay rfl
      | gate => sizeOf_list_dec; exact stay rfl
      | thin =>
        try sizeOf_list_dec
        refine ⟨by rw [hz]; decide, ?_⟩
        have o := out rfl
        rw [hp _ rfl] at o
        exact o
      | stretch =>
        try sizeOf_list_dec
        refine ⟨by rw [hz]; decide, ?_⟩
        have o := out rfl
        rw [hp _ rfl] at o
        exact o
  · rintro e W1 ⟨rfl, a, b, d3, hab, hr, ha, rfl⟩
    have hb : b = [] := by cases b with | nil => rfl | cons c b => cases hr
    subst hb
    rw [List.append_nil] at hab
    subst hab
    exact h2 (List.find?_eq_none.mpr (by intro x hx; simp [ha x hx])) d3
theorem is_fast_place_ok {bs : List Bx} {i : Nat} (hi : i < bs.length) {d : D} (hd : d = .lst (bs.map Bx.d) ∨ d = .tup (bs.map Bx.d)) (k : Nat) {W : Wd} {Q : Cn D} {X : Cx} (q : Q (.bl (fastP bs i)) W) : RR (clS (k + 1) 20 [d, .int i] W) Q X := by
  rw [u_is_fast_place]
  unfold s_is_fast_place
  have e1 : cutD (bs.map Bx.d) (some ((i : Int) + 1)) none = (bs.drop (i + 1)).map Bx.d := by
    rw [cut_from (by omega), List.map_drop]; rfl
  have e2 : (cutD (bs.map Bx.d) none (some (i : Int))).reverse = (bs.take i).reverse.map Bx.d := by
    rw [cut_to (by omega), List.map_reverse, List.map_take]; rfl
  rcases hd with rfl | rfl
  all_goals
    try sizeOf_list_dec
    rw [e1]
    refine fast_loop (p := Bx.isT) (fun x hx => by cases x <;> first | (simp [Bx.isR] at hx; done) | rfl) (by decide) _ _ (fun y hy => ?_) fun hy d3 => ?_
    · unfold fastP at q
      rw [hy] at q
      exact q
    · dsimp only
      try sizeOf_list_dec
      rw [e2]
      refine fast_loop (p := Bx.isS) (fun x hx => by cases x <;> first | (simp [Bx.isR] at hx; done) | rfl) (by decide) _ _ (fun y hy2 => ?_) fun hy2 d3 => ?_
      · unfold fastP at q
        rw [hy] at q
        dsimp only at q
        rw [hy2] at q
        exact q
      · dsimp only
        try sizeOf_list_dec
        unfold fastP at q
        rw [hy] at q
        dsimp only at q
        rw [hy2] at q
        exact q
/-- behind boxes: the last rate -/
theorem scan_last {f : Bool} : ∀ {bs : List Bx} {s t : Option Bool}, scan f s bs = some t → t = match bs.reverse.find? Bx.isR with
    | some y => some y.isT
    | none => s
  | [], s, t, h => by cases h; rfl
  | x :: bs, s, t, h => by
    rw [List.reverse_cons, List.find?_append]
    cases x <;> simp only [scan] at h
    case taps l => have z := scan_last h; rw [z]; cases bs.reverse.find? Bx.isR <;> rfl
    all_goals
      split at h <;> first | (cases h; done) | skip
      have z := scan_last h
      rw [z]
      cases bs.reverse.find? Bx.isR <;> rfl
/-- ahead of boxes: the first rate -/
theorem scan_first {f : Bool} : ∀ {bs : List Bx} {s t : Option Bool} {y : Bx}, scan f s bs = some t → bs.find? Bx.isR = some y → (s = some true ∨ (s = none ∧ f = false)) → y.isT = false
  | x :: bs, s, t, y, h, hy, hs => by
    cases x <;> simp only [scan] at h
    case taps l => exact scan_first h (by simpa [List.find?_cons, Bx.isR] using hy) hs
    case thin => rw [if_pos hs] at h; cases h
    case stretch =>
      have e : Bx.stretch = y := by simpa [List.find?_cons, Bx.isR] using hy
      subst e; rfl
    case gate => rw [if_pos hs] at h; exact scan_first h (by simpa [List.find?_cons, Bx.isR] using hy) hs
    case blend => rw [if_pos hs] at h; exact scan_first h (by simpa [List.find?_cons, Bx.isR] using hy) hs
theorem scan_split {f : Bool} : ∀ {a b : List Bx} {s t : Option Bool}, scan f s (a ++ b) = some t → ∃ u, scan f s a = some u ∧ scan f u b = some t
  | [], b, s, t, h => ⟨s, rfl, h⟩
  | x :: a, b, s, t, h => by
    cases x <;> simp only [scan, List.cons_append] at h ⊢
    case taps l => exact scan_split h
    all_goals
      split at h <;> first | (cases h; done) | skip
      rename_i q
      simp only [q, if_true, if_false]
      exact scan_split h
theorem slow_not_fast {f : Bool} {bs : List Bx} {t : Option Bool} (h : scan f none bs = some t) {i : Nat} (hi : i < bs.length) (hx : (∃ a b, bs[i] = .blend a b) ∨ bs[i] = .gate) : fastP bs i = false := by
  have e : bs = bs.take i ++ (bs[i] :: bs.drop (i + 1)) := by rw [← List.drop_eq_getElem_cons hi, List.take_append_drop]
  rw [e] at h
  obtain ⟨u, h1, h2⟩ := scan_split h
  have hu : u = some true ∨ (u = none ∧ f = false) := by
    rcases hx with ⟨a, b, hx⟩ | hx
    · rw [hx] at h2
      simp only [scan] at h2
      split at h2
      · assumption
      · cases h2
    · rw [hx] at h2
      simp only [scan] at h2
      split at h2
      · assumption
      · cases h2
  have h3 : scan f u (bs.drop (i + 1)) = some t := by
    rcases hx with ⟨a, b, hx⟩ | hx
    · rw [hx] at h2; simp only [scan, hu, if_true] at h2; exact h2
    · rw [hx] at h2; simp only [scan, hu, if_true] at h2; exact h2
  unfold fastP
  cases q : (bs.drop (i + 1)).find? Bx.isR with
  | some y => exact scan_first h3 q hu
  | none =>
    dsimp only
    have l := scan_last h1
    cases q2 : (bs.take i).reverse.find? Bx.isR with
    | none => rfl
    | some y =>
      rw [q2] at l
      dsimp only at l ⊢
      subst l
      rcases hu with hu | ⟨hu, _⟩
      · cases y <;> first | rfl | (simp [Bx.isT] at hu)
      · cases hu
end Kx
end VI
-- P5
set_option Elab.async false
set_option linter.all false
set_option maxRecDepth 100000
set_option maxHeartbeats 0
namespace VI
open PySem PySem.Spec PyProof.Rows L2
namespace Kx
local macro_rules | `(tactic| sizeOf_list_dec) => `(tactic| simp (decide := true) only [RR_ok, RR_exc, RR_no, RR_bind, RS_nx, RS_ret, RS_brk, RS_ct, RS_exc, RS_no, RS_on, RS_then, BO_some, BO_none, RR_rBo, RR_rB, EV_some, TR_bl, TR_int, TR_non, TR_lst, TR_tup, IT_lst, IT_tup, IT_str, EEp_var, EEp_con, EEp_glo, EEp_bin, EEp_adm, EEp_neg, EEp_cmp, TB_bl, EEp_chn, EEp_and, ETp_and, EEp_or, ETp_or, EEp_not, ETp_not, EEp_one, ETp_one, EEp_ife, EEp_sub, EPp_non, TI_int, EPp_of, EPp_con, EPp_var, EPp_bin, EPp_blt, EPp_neg, EPp_sub, EPp_call, EPp_att, EPp_lni, EPp_glo, EEp_sli, EEp_rev, EEp_non, EEp_tup, EEp_lst, EEp_mls, EAp_nil, EAp_cons, SQ_lst, SQ_tup, EAp_star, EEp_blt, EEp_isi, TS_str, EEp_join, EEp_call, EEp_calS, EEp_makS, EEp_calK, EEp_make, TN_ins, EEp_meth, EEp_att, EEp_lni, EEp_cat, EEp_mli, EEp_comp, EEp_mco, EEp_fsp, EAp_fpn, EAp_fpc, EEp_fmt, EEp_frz, EEp_app, EIp_rn1, EIp_rn2, TQ_lst, TQ_tup, EIp_enm, TZ_lst, TZ_tup, EIp_zip, RR_fep, RR_ftp, RR_fap, RR_fip, RS_fsp, ETp_var, ETp_con, ETp_cmp, ETp_chn, ETp_call, ETp_meth, ETp_att, ETp_blt, ETp_isi, EIp_ife, EIp_var, EIp_glo, EIp_con, EIp_sub, EIp_sli, EIp_rev, EIp_lst, EIp_tup, EIp_att, EIp_call, EIp_meth, EIp_comp, EIp_bin, SSp_skip, SSp_nil, SSp_seq, SSp_ex, SSp_ret, SSp_retN, SSp_set, SSp_par, SSp_sct, SSp_ite, SSp_forr, TF_ins, TL_lst, SSp_forw, SSp_whl, SSp_brk, SSp_cnt, SSp_gho, SSp_aug, SSp_sti, SSp_sta, RR_endS, ↓EE_var, ↓EE_con, ↓EE_glo, ↓EE_bin, ↓EE_adm, ↓EE_neg, ↓EE_cmp, ↓EE_chn, ↓EE_and, ↓ET_and, ↓EE_or, ↓ET_or, ↓EE_not, ↓ET_not, ↓EE_one, ↓ET_one, ↓EE_ife, ↓EE_sub, ↓EP_non, ↓EP_con, ↓EP_var, ↓EP_bin, ↓EP_blt, ↓EP_neg, ↓EP_sub, ↓EP_call, ↓EP_att, ↓EP_lni, ↓EP_glo, ↓EE_sli, ↓EE_rev, ↓EE_non, ↓EE_tup, ↓EE_lst, ↓EE_mls, ↓EA_nil, ↓EA_cons, ↓EA_star, ↓EE_blt, ↓EE_isi, ↓EE_join, ↓EE_call, ↓EE_calS, ↓EE_makS, ↓EE_calK, ↓EE_make, ↓EE_meth, ↓EE_att, ↓EE_lni, ↓EE_cat, ↓EE_mli, ↓EE_comp, ↓EE_mco, ↓EE_fsp, ↓EA_fpn, ↓EA_fpc, ↓EE_fmt, ↓EE_frz, ↓EE_app, ↓EI_rn1, ↓EI_rn2, ↓EI_enm, ↓EI_zip, ↓RR_fe, ↓RR_ft, ↓RR_fa, ↓RR_fi, ↓RS_fs, ↓ET_var, ↓ET_con, ↓ET_cmp, ↓ET_chn, ↓ET_call, ↓ET_meth, ↓ET_att, ↓ET_blt, ↓ET_isi, ↓EI_ife, ↓EI_var, ↓EI_glo, ↓EI_con, ↓EI_sub, ↓EI_sli, ↓EI_rev, ↓EI_lst, ↓EI_tup, ↓EI_att, ↓EI_call, ↓EI_meth, ↓EI_comp, ↓EI_bin, ↓SS_skip, ↓SS_nil, ↓SS_seq, ↓SS_ex, ↓SS_ret, ↓SS_retN, ↓SS_set, ↓SS_par, ↓SS_sct, ↓SS_ite, ↓SS_forr, ↓SS_forw, ↓SS_whl, ↓SS_brk, ↓SS_cnt, ↓SS_gho, ↓SS_aug, ↓SS_sti, ↓SS_sta, LS_lst, LS_ro, LM_lst, LI_ins, TH_at, TN_at, SQ_at, add_int, add_str, add_lst, add_tup, adm_at, adm_lst, sub_int, mul_int, mul_lst, mul_chr, div_int, mod_int, pow_int, shl_int, neg_int, cEq_int, cNe_int, cLt_int, cLe_int, cGt_int, cGe_int, cIs_non, cIsN_non, cIn_tup, cIn_lst, cNi_tup, cNi_lst, sub_lst, sub_tup, sub_str, sub_at, sli_lst, sli_tup, sli_str, sli_at, rev_lst, rev_tup, sti_at, sta_at, len_lst, len_tup, len_str, len_at, all_lst, any_lst, sum_lst, max_int, min_int, abs_int, str_int, int_int, int_bl, list_any, tuple_lst, tuple_tup, join_lst, fmt_val, fmt_vali, fmt_lft, fmt_rgt, frz_non, frz_bl, frz_int, frz_str, frz_lst, frz_tup, frz_ins, LF_lst, LF_ins, frz_at, aug_add, aug_sub, BO_any, AT_nil, AT_cons, ty_NoneType_bool, ty_NoneType_int, ty_NoneType_str, ty_NoneType_list, ty_NoneType_tuple, ty_bool_bool, ty_bool_int, ty_bool_str, ty_bool_list, ty_bool_tuple, ty_int_bool, ty_int_int, ty_int_str, ty_int_list, ty_int_tuple, ty_str_bool, ty_str_int, ty_str_str, ty_str_list, ty_str_tuple, ty_list_bool, ty_list_int, ty_list_str, ty_list_list, ty_list_tuple, ty_tuple_bool, ty_tuple_int, ty_tuple_str, ty_tuple_list, ty_tuple_tuple, ty_NoneType_c, ty_bool_c, ty_int_c, ty_str_c, ty_list_c, ty_tuple_c, at0, at1, at2, at3, at4, ix5_1, ix5_2, ix5_3, ix5_4, bools_map, ints_map, strs_map, cEq_str, cNe_str, eqF_str, eqF_int, cEq_bl, cNe_bl, List.getElem?_cons_zero, List.getElem?_cons_succ, List.set_cons_zero, List.set_cons_succ, List.length_cons, List.length_nil, bindG, bindG.binds, setP, wipeE, if_true, if_false, Nat.reduceAdd, Int.reduceAdd, Int.reduceSub, Int.reduceMul, Int.reduceNeg, Nat.reduceSub, true_implies, forall_const, Bool.false_eq_true, false_implies, and_true, true_and, not_true_eq_false, Bool.true_eq_false, isNon, Bool.not_true, Bool.not_false, reduceCtorEq, List.isEmpty_cons, List.isEmpty_nil, putD, Nat.zero_add, and_self, implies_true, flatD, List.all_cons, List.all_nil, List.any_cons, List.any_nil, decide_true, decide_false, Bool.or_false, Bool.or_true, Bool.true_or, Bool.false_or, Bool.and_true, Bool.true_and, Bool.and_false, Bool.false_and, Bool.and_self, Bool.or_self, tb_cl, tb_fld_0_3, tb_mth_0_1, tb_mth_0_2, tb_mth_0_6, tb_cat_0_5, tb_cat_0_4, tb_wlk_0_0, tb_lnm_0, tb_ini_0, tb_gl_0, tb_gl_1, tb_gl_2, tb_gl_3, tb_ck_0, dx_taps, dx_blend, dx_thin, dx_stretch, dx_gate])
local macro_rules | `(tactic| array_get_dec) => `(tactic| simp (decide := true) only [bindG, bindG.binds, List.length_cons, List.length_nil, if_true, List.set_cons_zero, List.set_cons_succ, BO_some, RS_fs, SS_seq])
theorem enumL_cons {i : Nat} {x : D} {xs : List D} : enumL i (x :: xs) = .tup [.int (i : Nat), x] :: enumL (i + 1) xs := rfl
def lastW : Option Bool → List Nat
  | none => []
  | some true => tThin
  | some false => tStretch
theorem check_rates_ok {bs : List Bx} {f : Bool} {t : Option Bool} (h : scan f none bs = some t) (k : Nat) {W : Wd} {Q : Cn D} {X : Cx} (q : Q .non W) : RR (clS (k + 1) 21 [.tup (bs.map Bx.d)] W) Q X := by
  rw [u_check_rates]
  unfold s_check_rates
  try sizeOf_list_dec
  refine for_ok (fun rest e W1 => W1 = W ∧ ∃ i b u d2 d3, rest = enumL i (b.map Bx.d) ∧ scan f u b = some t ∧ e = [some (.tup (bs.map Bx.d)), some (.str (lastW u)), d2, d3]) ⟨rfl, 0, bs, none, _, _, rfl, h, rfl⟩ ?_ ?_
  · rintro x rest e W1 ⟨rfl, i, b, u, d2, d3, hr, hs, rfl⟩
    cases b with
    | nil => cases hr
    | cons y b =>
      rw [List.map_cons, enumL_cons] at hr
      obtain ⟨rfl, rfl⟩ := List.cons.inj hr
      have stay : ∀ u', scan f u' b = some t → ∃ i_1 b_1 u_1 d2 d3, enumL (i + 1) (b.map Bx.d) = enumL i_1 (b_1.map Bx.d) ∧ scan f u_1 b_1 = some t ∧ [some (.tup (bs.map Bx.d)), some (D.str (lastW u')), some (D.int i), some y.d] = [some (.tup (bs.map Bx.d)), some (.str (lastW u_1)), d2, d3] := fun u' h => ⟨i + 1, b, u', _, _, rfl, h, rfl⟩
      cases y with
      | taps l => repeat (first | sizeOf_list_dec | simp only [lookR, look])
                  exact stay u hs
      | blend l r =>
        simp only [scan] at hs
        split at hs <;> first | (cases hs; done) | skip
        repeat (first | sizeOf_list_dec | simp only [lookR, look])
        exact stay u hs
      | gate =>
        simp only [scan] at hs
        split at hs <;> first | (cases hs; done) | skip
        repeat (first | sizeOf_list_dec | simp only [lookR, look])
        exact stay u hs
      | thin =>
        simp only [scan] at hs
        split at hs <;> first | (cases hs; done) | skip
        rename_i hn
        repeat (first | sizeOf_list_dec | simp only [lookR, look])
        have hu : decide (tThin = lastW u) = false := by
          cases u with
          | none => decide
          | some r => cases r with
            | true => exact absurd (Or.inl rfl) hn
            | false => decide
        refine ⟨by cases u with | none => decide | some r => cases r <;> decide, ?_⟩
        rw [hu]
        repeat (first | sizeOf_list_dec | simp only [lookR, look])
        exact stay (some true) hs
      | stretch =>
        simp only [scan] at hs
        split at hs <;> first | (cases hs; done) | skip
        rename_i hn
        repeat (first | sizeOf_list_dec | simp only [lookR, look])
        have hu : decide (tStretch = lastW u) = false := by
          cases u with
          | none => decide
          | some r => cases r with
            | false => exact absurd (Or.inl rfl) hn
            | true => decide
        refine ⟨by cases u with | none => decide | some r => cases r <;> decide, ?_⟩
        rw [hu]
        repeat (first | sizeOf_list_dec | simp only [lookR, look])
        exact stay (some false) hs
  · rintro e W1 ⟨rfl, i, b, u, d2, d3, hr, hs, rfl⟩
    try sizeOf_list_dec
    exact q
theorem Good.take {bs : List Bx} (G : Good bs) (n : Nat) : Good (bs.take n) where
  ok := fun x hx => G.ok x (List.mem_of_mem_take hx)
  sc := by
    obtain ⟨f, s, h⟩ := G.sc
    rw [← List.take_append_drop n bs] at h
    obtain ⟨u, h1, _⟩ := scan_split h
    exact ⟨f, u, h1⟩
  sp := by
    have e : spanSum bs = spanSum (bs.take n) + spanSum (bs.drop n) := by rw [← spanSum_app, List.take_append_drop]
    have h : 0 ≤ spanSum (bs.drop n) := by
      have g : ∀ l : List Bx, (∀ x ∈ l, x.Ok) → 0 ≤ spanSum l := fun l hl => by
        induction l with
        | nil => exact Int.le_refl _
        | cons x l ih =>
          have a := Bx.span_nn (hl x (by simp))
          have b := ih fun y hy => hl y (by simp [hy])
          have e : spanSum (x :: l) = x.span + spanSum l := by simp [spanSum]
          omega
      exact g _ fun x hx => G.ok x (List.mem_of_mem_drop hx)
    have := G.sp
    omega
  len := Nat.le_trans (by rw [List.length_take]; omega) G.len
theorem init_ok {bs : List Bx} (G : Good bs) {n : Nat} (k : Nat) {W : Wd} (hW : W[n]? = some (.ins 0 [])) {Q : Cn D} {X : Cx} (q : Q .non (W.set n (.ins 0 [.lst (bs.map Bx.d)]))) :
    RR (clS (k + 1 + 1 + 1 + 1 + 1) 24 (.hd n :: bs.map Bx.d) W) Q X := by
  have hlen := G.len
  rw [u_Chain___init__ (fits_of (by rw [List.length_map]; omega))]
  unfold s_Chain___init__
  refine SS_seq.mpr (SS_cut (P := fun e W1 => W1 = W ∧ ∃ d2 d3, e = [some (.hd n), some (.tup (bs.map Bx.d)), d2, d3]) ?_ ?_)
  · try sizeOf_list_dec
    refine for_ok (fun rest e W1 => W1 = W ∧ ∃ i b d2 d3, rest = enumL i (b.map Bx.d) ∧ (∀ x ∈ b, x.Ok) ∧ e = [some (.hd n), some (.tup (bs.map Bx.d)), d2, d3]) ⟨rfl, 0, bs, _, _, rfl, G.ok, rfl⟩ ?_ ?_
    · rintro x rest e W1 ⟨rfl, i, b, d2, d3, hr, hok, rfl⟩
      cases b with
      | nil => cases hr
      | cons y b =>
        rw [List.map_cons, enumL_cons] at hr
        obtain ⟨rfl, rfl⟩ := List.cons.inj hr
        repeat (first | sizeOf_list_dec | simp only [lookR, look])
        refine is_box_ok (hok y (by simp)) _ ?_
        repeat (first | sizeOf_list_dec | simp only [lookR, look])
        exact ⟨i + 1, b, _, _, rfl, fun x hx => hok x (by simp [hx]), rfl⟩
    · rintro e W1 ⟨rfl, i, b, d2, d3, hr, hok, rfl⟩
      exact ⟨rfl, d2, d3, rfl⟩
  rintro e W1 ⟨rfl, d2, d3, rfl⟩
  dsimp only
  try sizeOf_list_dec
  refine ⟨fun h => absurd h (by simp; omega), fun h => ?_⟩
  obtain ⟨f, t, hsc⟩ := G.sc
  refine check_rates_ok hsc _ ?_
  dsimp only
  refine SS_seq.mpr (SS_cut (P := fun e W2 => W2 = W1 ∧ ∃ d2 d3, e = [some (.hd n), some (.tup (bs.map Bx.d)), d2, d3]) ?_ ?_)
  · try sizeOf_list_dec
    refine for_ok (fun rest e W2 => W2 = W1 ∧ ∃ i d2 d3, i ≤ bs.length ∧ rest = enumL i ((bs.drop i).map Bx.d) ∧ e = [some (.hd n), some (.tup (bs.map Bx.d)), d2, d3]) ⟨rfl, 0, _, _, Nat.zero_le _, rfl, rfl⟩ ?_ ?_
    · rintro x rest e W2 ⟨rfl, i, d2, d3, hi, hr, rfl⟩
      by_cases hlt : i < bs.length
      · rw [List.drop_eq_getElem_cons hlt, List.map_cons, enumL_cons] at hr
        obtain ⟨rfl, rfl⟩ := List.cons.inj hr
        have stay : ∃ i_1 d2 d3, i_1 ≤ bs.length ∧ enumL (i + 1) ((bs.drop (i + 1)).map Bx.d) = enumL i_1 ((bs.drop i_1).map Bx.d) ∧ [some (.hd n), some (.tup (bs.map Bx.d)), some (D.int i), some bs[i].d] = [some (.hd n), some (.tup (bs.map Bx.d)), d2, d3] := ⟨i + 1, _, _, hlt, rfl, rfl⟩
        have nf := slow_not_fast hsc hlt
        obtain ⟨y, hy⟩ : ∃ y, y = bs[i] := ⟨_, rfl⟩
        rw [← hy] at stay nf ⊢
        cases y with
        | taps l => repeat (first | sizeOf_list_dec | simp only [lookR, look])
                    exact stay
        | thin => repeat (first | sizeOf_list_dec | simp only [lookR, look])
                  exact stay
        | stretch => repeat (first | sizeOf_list_dec | simp only [lookR, look])
                     exact stay
        | gate =>
          repeat (first | sizeOf_list_dec | simp only [lookR, look])
          refine is_fast_place_ok hlt (.inr rfl) _ ?_
          rw [nf (.inr rfl)]
          repeat (first | sizeOf_list_dec | simp only [lookR, look])
          exact stay
        | blend l r =>
          repeat (first | sizeOf_list_dec | simp only [lookR, look])
          refine is_fast_place_ok hlt (.inr rfl) _ ?_
          rw [nf (.inl ⟨_, _, rfl⟩)]
          repeat (first | sizeOf_list_dec | simp only [lookR, look])
          exact stay
      · rw [List.drop_of_length_le (by omega)] at hr
        cases hr
    · rintro e W2 ⟨rfl, i, d2, d3, hi, hr, rfl⟩
      exact ⟨rfl, d2, d3, rfl⟩
  rintro e W2 ⟨rfl, d2, d3, rfl⟩
  dsimp only
  try sizeOf_list_dec
  refine ⟨fits_of (by rw [List.length_map]; omega), comp_pure (f := fun x : Bx => .int x.span) (p := fun _ => true) (fun x hx => ?_) ?_⟩
  · try sizeOf_list_dec
    refine span_of_ok _ ?_
    exact ⟨rfl, rfl⟩
  · rw [List.filter_eq_self.mpr (by simp)]
    try sizeOf_list_dec
    have hs : decide (12 < (bs.map Bx.span).sum) = false := by
      have := G.sp
      unfold spanSum at this
      simp; omega
    rw [hs]
    repeat (first | sizeOf_list_dec | simp only [hW])
    refine ⟨rfl, ?_⟩
    exact q
theorem check_at_ok {i m : Int} {d : D} (h0 : 0 ≤ i) (h1 : i ≤ m) (k : Nat) {W : Wd} {Q : Cn D} {X : Cx} (q : Q .non W) : RR (clS (k + 1 + 1 + 1) 26 [d, .int i, .int m] W) Q X := by
  rw [u_Chain_check_at]
  unfold s_Chain_check_at
  try sizeOf_list_dec
  refine is_number_int _ ?_
  rw [decide_eq_true h0, decide_eq_true h1]
  try sizeOf_list_dec
  exact q
/-- a chain, frozen -/
def chD (bs : List Bx) : D := .ins 0 [.lst (bs.map Bx.d)]
theorem make_ok {bs : List Bx} (G : Good bs) (k : Nat) {W : Wd} {Q : Cn D} {X : Cx} (q : ∀ W1, Frm [] W W1 → Q (chD bs) W1) : RR (mkI (tt.tb (clS (k + 1 + 1 + 1 + 1 + 1))) 0 true (bs.map Bx.d) W) Q X := by
  rw [RR_mkI]
  have e : (tt.tb (clS (k + 1 + 1 + 1 + 1 + 1))).cl ((tt.tb (clS (k + 1 + 1 + 1 + 1 + 1))).ini 0) = clS (k + 1 + 1 + 1 + 1 + 1) 24 := rfl
  rw [e]
  refine init_ok G k get_app ?_
  refine ⟨rfl, ?_⟩
  simp only [if_true]
  rw [frz_at, get_set get_app]
  refine q _ ⟨by simp, fun i s _ hs => ?_⟩
  have hi := lt_of_get hs
  rw [List.getElem?_set_ne (by omega), List.getElem?_set_ne (by omega), List.getElem?_append_left hi]
  exact hs
theorem TN_ch {bs : List Bx} {W : Wd} {P : Cp2 Nat (List D)} : TN W (chD bs) P ↔ P 0 [.lst (bs.map Bx.d)] := Iff.rfl
theorem TF_ch {bs : List Bx} {P : Cp2 Nat (List D)} : TF (chD bs) P ↔ P 0 [.lst (bs.map Bx.d)] := Iff.rfl
theorem len_ok {bs : List Bx} (k : Nat) {W : Wd} {Q : Cn D} {X : Cx} (q : Q (.int bs.length) W) : RR (clS (k + 1) 28 [chD bs] W) Q X := by
  rw [u_Chain___len__]
  unfold s_Chain___len__ chD
  try sizeOf_list_dec
  rw [List.length_map]
  exact q
theorem with_box_ok {bs : List Bx} {x : Bx} (G : Good (bs ++ [x])) (k : Nat) {W : Wd} {Q : Cn D} {X : Cx} (q : ∀ W1, Frm [] W W1 → Q (chD (bs ++ [x])) W1) : RR (clS (k + 1 + 1 + 1 + 1 + 1 + 1) 27 [chD bs, .int bs.length, x.d] W) Q X := by
  have hl := G.len
  rw [List.length_append, List.length_singleton] at hl
  rw [u_Chain_with_box]
  unfold s_Chain_with_box
  show SS _ _ [some (.ins 0 [.lst (bs.map Bx.d)]), some (.int bs.length), some x.d, none] W _
  try sizeOf_list_dec
  rw [List.length_map]
  refine check_at_ok (by omega) (Int.le_refl _) _ ?_
  try sizeOf_list_dec
  have e1 : cutD (bs.map Bx.d) none (some (bs.length : Int)) = bs.map Bx.d := by
    rw [cut_to (by omega), Int.toNat_natCast, List.take_of_length_le (by rw [List.length_map]; omega)]
  have e2 : cutD (bs.map Bx.d) (some (bs.length : Int)) none = [] := by
    rw [cut_from (by omega), Int.toNat_natCast, List.drop_of_length_le (by rw [List.length_map]; omega)]
  rw [e1]
  refine ⟨fits_of (by rw [List.length_map]; omega), ?_⟩
  try sizeOf_list_dec
  rw [e2]
  refine ⟨fits_of (by simp; omega), ?_⟩
  try sizeOf_list_dec
  have e3 : bs.map Bx.d ++ [x.d] ++ [] = (bs ++ [x]).map Bx.d := by simp
  rw [e3]
  exact make_ok G k q
theorem chain_ok {bs : List Bx} (G : Good bs) (k : Nat) {W : Wd} {Q : Cn D} {X : Cx} (q : ∀ W1, Frm [] W W1 → Q (chD bs) W1) : RR (clS (k + 1 + 1 + 1 + 1 + 1 + 1 + 1) 2 [.lst (bs.map Bx.d)] W) Q X := by
  rw [u__law_chain]
  unfold s__law_chain
  try sizeOf_list_dec
  refine make_ok (bs := []) ⟨by simp, ⟨true, none, rfl⟩, by decide, by decide⟩ _ fun W1 F1 => ?_
  try sizeOf_list_dec
  refine for_ok (fun rest e W2 => Frm [] W W2 ∧ ∃ i d2, i ≤ bs.length ∧ rest = (bs.drop i).map Bx.d ∧ e = [some (.lst (bs.map Bx.d)), some (chD (bs.take i)), d2]) ⟨F1, 0, _, Nat.zero_le _, rfl, rfl⟩ ?_ ?_
  · rintro x rest e W2 ⟨F2, i, d2, hi, hr, rfl⟩
    by_cases hlt : i < bs.length
    · rw [List.drop_eq_getElem_cons hlt, List.map_cons] at hr
      obtain ⟨rfl, rfl⟩ := List.cons.inj hr
      have ht : (bs.take i).length = i := by rw [List.length_take]; omega
      have hn : bs.take i ++ [bs[i]] = bs.take (i + 1) := by rw [List.take_succ, List.getElem?_eq_getElem hlt]; rfl
      have hl := G.len
      simp only [chD]
      try sizeOf_list_dec
      show RR (clS (k + 6) 28 [chD (bs.take i)] W2) _ _
      refine len_ok _ ?_
      rw [ht]
      try sizeOf_list_dec
      refine ⟨⟨by omega, by omega⟩, ?_⟩
      try sizeOf_list_dec
      show RR (clS (k + 6) 27 [chD (bs.take i), .int i, bs[i].d] W2) _ _
      have g := @with_box_ok (bs.take i) bs[i] (by rw [hn]; exact G.take _) k W2
      rw [ht] at g
      refine g fun W3 F3 => ?_
      rw [hn]
      try sizeOf_list_dec
      exact ⟨F2.trans F3, i + 1, _, hlt, rfl, rfl⟩
    · rw [List.drop_of_length_le (by omega)] at hr
      cases hr
  · rintro e W2 ⟨F2, i, d2, hi, hr, rfl⟩
    have he : i = bs.length := by
      have : ((bs.drop i).map Bx.d).length = 0 := by rw [← hr]; rfl
      rw [List.length_map, List.length_drop] at this
      omega
    subst he
    rw [List.take_length]
    try sizeOf_list_dec
    exact q W2 F2
def Bx.isTp : Bx → Bool
  | .taps _ => true
  | _ => false
theorem is_fast_ok {bs : List Bx} {i : Nat} (hi : i < bs.length) (k : Nat) {W : Wd} {Q : Cn D} {X : Cx} (q : Q (.bl (bs[i].isTp && fastP bs i)) W) : RR (clS (k + 1 + 1 + 1 + 1) 25 [chD bs, .int i] W) Q X := by
  rw [u_Chain_is_fast]
  unfold s_Chain_is_fast
  simp only [chD]
  try sizeOf_list_dec
  rw [List.length_map]
  refine check_at_ok (by omega) (by omega) _ ?_
  try sizeOf_list_dec
  rw [atI_nat, List.getElem?_map, List.getElem?_eq_getElem hi, Option.map_some]
  obtain ⟨y, hy⟩ : ∃ y, y = bs[i] := ⟨_, rfl⟩
  rw [← hy] at q ⊢
  cases y with
  | taps l =>
    try sizeOf_list_dec
    refine is_fast_place_ok hi (.inl rfl) _ ?_
    exact q
  | blend l r => sizeOf_list_dec; exact q
  | thin => sizeOf_list_dec; exact q
  | stretch => sizeOf_list_dec; exact q
  | gate => sizeOf_list_dec; exact q
end Kx
end VI
-- P6
set_option Elab.async false
set_option linter.all false
set_option maxRecDepth 100000
set_option maxHeartbeats 0
namespace VI
open PySem PySem.Spec PyProof.Rows L2
namespace Kx
local macro_rules | `(tactic| sizeOf_list_dec) => `(tactic| simp (decide := true) only [RR_ok, RR_exc, RR_no, RR_bind, RS_nx, RS_ret, RS_brk, RS_ct, RS_exc, RS_no, RS_on, RS_then, BO_some, BO_none, RR_rBo, RR_rB, EV_some, TR_bl, TR_int, TR_non, TR_lst, TR_tup, IT_lst, IT_tup, IT_str, EEp_var, EEp_con, EEp_glo, EEp_bin, EEp_adm, EEp_neg, EEp_cmp, TB_bl, EEp_chn, EEp_and, ETp_and, EEp_or, ETp_or, EEp_not, ETp_not, EEp_one, ETp_one, EEp_ife, EEp_sub, EPp_non, TI_int, EPp_of, EPp_con, EPp_var, EPp_bin, EPp_blt, EPp_neg, EPp_sub, EPp_call, EPp_att, EPp_lni, EPp_glo, EEp_sli, EEp_rev, EEp_non, EEp_tup, EEp_lst, EEp_mls, EAp_nil, EAp_cons, SQ_lst, SQ_tup, EAp_star, EEp_blt, EEp_isi, TS_str, EEp_join, EEp_call, EEp_calS, EEp_makS, EEp_calK, EEp_make, TN_ins, EEp_meth, EEp_att, EEp_lni, EEp_cat, EEp_mli, EEp_comp, EEp_mco, EEp_fsp, EAp_fpn, EAp_fpc, EEp_fmt, EEp_frz, EEp_app, EIp_rn1, EIp_rn2, TQ_lst, TQ_tup, EIp_enm, TZ_lst, TZ_tup, EIp_zip, RR_fep, RR_ftp, RR_fap, RR_fip, RS_fsp, ETp_var, ETp_con, ETp_cmp, ETp_chn, ETp_call, ETp_meth, ETp_att, ETp_blt, ETp_isi, EIp_ife, EIp_var, EIp_glo, EIp_con, EIp_sub, EIp_sli, EIp_rev, EIp_lst, EIp_tup, EIp_att, EIp_call, EIp_meth, EIp_comp, EIp_bin, SSp_skip, SSp_nil, SSp_seq, SSp_ex, SSp_ret, SSp_retN, SSp_set, SSp_par, SSp_sct, SSp_ite, SSp_forr, TF_ins, TL_lst, SSp_forw, SSp_whl, SSp_brk, SSp_cnt, SSp_gho, SSp_aug, SSp_sti, SSp_sta, RR_endS, ↓EE_var, ↓EE_con, ↓EE_glo, ↓EE_bin, ↓EE_adm, ↓EE_neg, ↓EE_cmp, ↓EE_chn, ↓EE_and, ↓ET_and, ↓EE_or, ↓ET_or, ↓EE_not, ↓ET_not, ↓EE_one, ↓ET_one, ↓EE_ife, ↓EE_sub, ↓EP_non, ↓EP_con, ↓EP_var, ↓EP_bin, ↓EP_blt, ↓EP_neg, ↓EP_sub, ↓EP_call, ↓EP_att, ↓EP_lni, ↓EP_glo, ↓EE_sli, ↓EE_rev, ↓EE_non, ↓EE_tup, ↓EE_lst, ↓EE_mls, ↓EA_nil, ↓EA_cons, ↓EA_star, ↓EE_blt, ↓EE_isi, ↓EE_join, ↓EE_call, ↓EE_calS, ↓EE_makS, ↓EE_calK, ↓EE_make, ↓EE_meth, ↓EE_att, ↓EE_lni, ↓EE_cat, ↓EE_mli, ↓EE_comp, ↓EE_mco, ↓EE_fsp, ↓EA_fpn, ↓EA_fpc, ↓EE_fmt, ↓EE_frz, ↓EE_app, ↓EI_rn1, ↓EI_rn2, ↓EI_enm, ↓EI_zip, ↓RR_fe, ↓RR_ft, ↓RR_fa, ↓RR_fi, ↓RS_fs, ↓ET_var, ↓ET_con, ↓ET_cmp, ↓ET_chn, ↓ET_call, ↓ET_meth, ↓ET_att, ↓ET_blt, ↓ET_isi, ↓EI_ife, ↓EI_var, ↓EI_glo, ↓EI_con, ↓EI_sub, ↓EI_sli, ↓EI_rev, ↓EI_lst, ↓EI_tup, ↓EI_att, ↓EI_call, ↓EI_meth, ↓EI_comp, ↓EI_bin, ↓SS_skip, ↓SS_nil, ↓SS_seq, ↓SS_ex, ↓SS_ret, ↓SS_retN, ↓SS_set, ↓SS_par, ↓SS_sct, ↓SS_ite, ↓SS_forr, ↓SS_forw, ↓SS_whl, ↓SS_brk, ↓SS_cnt, ↓SS_gho, ↓SS_aug, ↓SS_sti, ↓SS_sta, LS_lst, LS_ro, LM_lst, LI_ins, TH_at, TN_at, SQ_at, add_int, add_str, add_lst, add_tup, adm_at, adm_lst, sub_int, mul_int, mul_lst, mul_chr, div_int, mod_int, pow_int, shl_int, neg_int, cEq_int, cNe_int, cLt_int, cLe_int, cGt_int, cGe_int, cIs_non, cIsN_non, cIn_tup, cIn_lst, cNi_tup, cNi_lst, sub_lst, sub_tup, sub_str, sub_at, sli_lst, sli_tup, sli_str, sli_at, rev_lst, rev_tup, sti_at, sta_at, len_lst, len_tup, len_str, len_at, all_lst, any_lst, sum_lst, max_int, min_int, abs_int, str_int, int_int, int_bl, list_any, tuple_lst, tuple_tup, join_lst, fmt_val, fmt_vali, fmt_lft, fmt_rgt, frz_non, frz_bl, frz_int, frz_str, frz_lst, frz_tup, frz_ins, LF_lst, LF_ins, frz_at, aug_add, aug_sub, BO_any, AT_nil, AT_cons, ty_NoneType_bool, ty_NoneType_int, ty_NoneType_str, ty_NoneType_list, ty_NoneType_tuple, ty_bool_bool, ty_bool_int, ty_bool_str, ty_bool_list, ty_bool_tuple, ty_int_bool, ty_int_int, ty_int_str, ty_int_list, ty_int_tuple, ty_str_bool, ty_str_int, ty_str_str, ty_str_list, ty_str_tuple, ty_list_bool, ty_list_int, ty_list_str, ty_list_list, ty_list_tuple, ty_tuple_bool, ty_tuple_int, ty_tuple_str, ty_tuple_list, ty_tuple_tuple, ty_NoneType_c, ty_bool_c, ty_int_c, ty_str_c, ty_list_c, ty_tuple_c, at0, at1, at2, at3, at4, ix5_1, ix5_2, ix5_3, ix5_4, bools_map, ints_map, strs_map, cEq_str, cNe_str, eqF_str, eqF_int, cEq_bl, cNe_bl, List.getElem?_cons_zero, List.getElem?_cons_succ, List.set_cons_zero, List.set_cons_succ, List.length_cons, List.length_nil, bindG, bindG.binds, setP, wipeE, if_true, if_false, Nat.reduceAdd, Int.reduceAdd, Int.reduceSub, Int.reduceMul, Int.reduceNeg, Nat.reduceSub, true_implies, forall_const, Bool.false_eq_true, false_implies, and_true, true_and, not_true_eq_false, Bool.true_eq_false, isNon, Bool.not_true, Bool.not_false, reduceCtorEq, List.isEmpty_cons, List.isEmpty_nil, putD, Nat.zero_add, and_self, implies_true, flatD, List.all_cons, List.all_nil, List.any_cons, List.any_nil, decide_true, decide_false, Bool.or_false, Bool.or_true, Bool.true_or, Bool.false_or, Bool.and_true, Bool.true_and, Bool.and_false, Bool.false_and, Bool.and_self, Bool.or_self, tb_cl, tb_fld_0_3, tb_mth_0_1, tb_mth_0_2, tb_mth_0_6, tb_cat_0_5, tb_cat_0_4, tb_wlk_0_0, tb_lnm_0, tb_ini_0, tb_gl_0, tb_gl_1, tb_gl_2, tb_gl_3, tb_ck_0, dx_taps, dx_blend, dx_thin, dx_stretch, dx_gate])
local macro_rules | `(tactic| array_get_dec) => `(tactic| simp (decide := true) only [bindG, bindG.binds, List.length_cons, List.length_nil, if_true, List.set_cons_zero, List.set_cons_succ, BO_some, RS_fs, SS_seq])
/-! ### texts -/
def jn (ys : List (List Nat)) : List Nat := TL.joinL [32] ys
theorem join_jn {ys : List (List Nat)} : ofStr (Txt.join (toStr [32]) (ys.map toStr)) = .str (jn ys) := by
  have e := TL.tl_join (toStr [32]) (ys.map toStr)
  have e2 : (ys.map toStr).map TL.tl = ys := by
    rw [List.map_map]
    conv => rhs; rw [← List.map_id ys]
    refine List.map_congr_left fun y _ => ?_
    show (toStr y).cps.toList = y
    simp [toStr]
  rw [e2] at e
  unfold ofStr jn
  rw [TL.join_eq]
  exact congrArg D.str e
theorem jn_nil : jn [] = [] := rfl
theorem jn_one {x : List Nat} : jn [x] = x := rfl
theorem jn_cons {x y : List Nat} {r : List (List Nat)} : jn (x :: y :: r) = x ++ 32 :: jn (y :: r) := rfl
theorem jn_app : ∀ {xs ys : List (List Nat)}, xs ≠ [] → ys ≠ [] → jn (xs ++ ys) = jn xs ++ 32 :: jn ys
  | [x], y :: ys, _, _ => by rw [List.singleton_append, jn_cons, jn_one]
  | x :: x2 :: xs, ys, _, h => by
    rw [List.cons_append, List.cons_append, jn_cons, jn_cons, ← List.cons_append, jn_app (by simp) h, List.append_assoc]
    rfl
theorem jn_len : ∀ {ys : List (List Nat)} {m : Nat}, (∀ y ∈ ys, y.length ≤ m) → (jn ys).length ≤ ys.length * (m + 1)
  | [], m, _ => by simp [jn_nil]
  | [y], m, h => by
    rw [jn_one]
    have := h y (by simp)
    simp; omega
  | y :: z :: r, m, h => by
    rw [jn_cons, List.length_append, List.length_cons]
    have a := h y (by simp)
    have b := jn_len (ys := z :: r) fun w hw => h w (by simp [hw])
    rw [List.length_cons (a := y), Nat.add_mul]
    omega
theorem sum_len {ys : List (List Nat)} {m : Nat} (h : ∀ y ∈ ys, y.length ≤ m) : (ys.map (·.length)).sum ≤ ys.length * m := by
  induction ys with
  | nil => simp
  | cons y ys ih =>
    have a := h y (by simp)
    have b := ih fun w hw => h w (by simp [hw])
    rw [List.map_cons, List.sum_cons, List.length_cons, Nat.add_mul]
    omega
theorem okS_app {x y : List Nat} (h1 : okS x = true) (h2 : okS y = true) : okS (x ++ y) = true := by
  unfold okS at *
  rw [List.all_append, h1, h2]; rfl
theorem okS_jn : ∀ {ys : List (List Nat)}, (∀ y ∈ ys, okS y = true) → okS (jn ys) = true
  | [], _ => rfl
  | [y], h => by rw [jn_one]; exact h y (by simp)
  | y :: z :: r, h => by
    rw [jn_cons]
    refine okS_app (h y (by simp)) ?_
    have b := okS_jn (ys := z :: r) fun w hw => h w (by simp [hw])
    unfold okS at *
    rw [List.all_cons, b]; rfl
theorem okS_drop {x : List Nat} {n : Nat} (h : okS x = true) : okS (x.drop n) = true := by
  unfold okS at *
  exact List.all_eq_true.mpr fun c hc => List.all_eq_true.mp h c (List.mem_of_mem_drop hc)
theorem tx_small : ∀ n : Fin 199, (intTx ((n : Nat) - 99 : Int)).length ≤ 3 ∧ okS (intTx ((n : Nat) - 99 : Int)) = true ∧ (intTx ((n : Nat) - 99 : Int)) ≠ [] := by decide +kernel
theorem tx_of {i : Int} (h1 : -99 ≤ i) (h2 : i ≤ 99) : (intTx i).length ≤ 3 ∧ okS (intTx i) = true ∧ intTx i ≠ [] := by
  have z := tx_small ⟨(i + 99).toNat, by omega⟩
  have e : (((i + 99).toNat : Nat) - 99 : Int) = i := by omega
  simp only [e] at z
  exact z
theorem tx_digit : ∀ n : Fin 10, intTx (n : Nat) = [48 + (n : Nat)] := by decide +kernel
theorem log_small {i : Int} (h1 : -99 ≤ i) (h2 : i ≤ 99) : Nat.blt i.natAbs.log2 1920 = true := by
  have h : i.natAbs < 2 ^ 7 := by omega
  have := log_lt h
  exact Nat.ble_eq_true_of_le (by omega)
/-- numbers as texts -/
theorem comp_tx {l : List Int} {lo : Int} (h : TapsOk lo l) (hlo : -99 ≤ lo) {W : Wd} {k : Nat} {env : EnvD} {Q : Cn (List D)} {X : Cx} {j : Nat} (hj : j < env.length) (q : Q (l.map fun x => .str (intTx x)) W) :
    RR (compL (.nm j) (ev (tt.tb (clS k)) (.con (.bl true))).t (ev (tt.tb (clS k)) (.blt .str (.cons (.var j) .nil))).e env (l.map D.int) W) Q X := by
  refine comp_pure (f := fun x => .str (intTx x)) (p := fun _ => true) (fun z hz => ?_) ?_
  · have e : bindG W (.nm j) (D.int z) env = some (env.set j (some (.int z))) := by
      simp [bindG, hj]
    rw [e]
    try sizeOf_list_dec
    simp only [List.getElem?_set_self hj]
    try sizeOf_list_dec
    have h1 := h.ge z hz
    have h2 := h.le z hz
    rw [log_small (by omega) h2]
    exact ⟨rfl, rfl⟩
  · rw [List.filter_eq_self.mpr (by simp)]
    exact q
def numsT (l : List Int) : List Nat := jn (l.map intTx)
def Bx.word : Bx → List Nat
  | .taps _ => tTaps
  | .blend _ _ => tBlend
  | .thin => tThin
  | .stretch => tStretch
  | .gate => tGate
def Bx.text : Bx → List Nat
  | .taps l => [116, 97, 112, 115, 32] ++ numsT l
  | .blend a b => [98, 108, 101, 110, 100, 32] ++ numsT a ++ [32, 44, 32] ++ numsT b
  | x => x.word
theorem nums_len {l : List Int} {lo : Int} (h : TapsOk lo l) (hlo : -99 ≤ lo) : (numsT l).length ≤ 36 := by
  have z := jn_len (ys := l.map intTx) (m := 3) fun y hy => by
    obtain ⟨i, hi, rfl⟩ := List.mem_map.mp hy
    have h1 := h.ge i hi
    exact (tx_of (by omega) (h.le i hi)).1
  rw [List.length_map] at z
  have := h.len
  unfold numsT
  omega
theorem nums_ok {l : List Int} {lo : Int} (h : TapsOk lo l) (hlo : -99 ≤ lo) : okS (numsT l) = true := okS_jn fun y hy => by
    obtain ⟨i, hi, rfl⟩ := List.mem_map.mp hy
    have h1 := h.ge i hi
    exact (tx_of (by omega) (h.le i hi)).2.1
theorem text_len {x : Bx} (h : x.Ok) : x.text.length ≤ 100 := by
  cases x with
  | taps l => have := nums_len (show TapsOk (-99) l from h) (by decide); simp [Bx.text]; omega
  | blend a b => have := nums_len h.1 (by decide); have := nums_len h.2 (by decide); simp [Bx.text]; omega
  | _ => simp [Bx.text, Bx.word]
theorem text_ok {x : Bx} (h : x.Ok) : okS x.text = true := by
  cases x with
  | taps l => exact okS_app (by decide) (nums_ok (show TapsOk (-99) l from h) (by decide))
  | blend a b => exact okS_app (okS_app (okS_app (by decide) (nums_ok h.1 (by decide))) (by decide)) (nums_ok h.2 (by decide))
  | _ => decide
theorem numbers_text_ok {l : List Int} {lo : Int} (h : TapsOk lo l) (hlo : -99 ≤ lo) (k : Nat) {W : Wd} {Q : Cn D} {X : Cx} (q : Q (.str (numsT l)) W) : RR (clS (k + 1) 18 [.tup (l.map D.int)] W) Q X := by
  have hl := h.len
  rw [u_numbers_text]
  unfold s_numbers_text
  try sizeOf_list_dec
  refine ⟨fits_of (by rw [List.length_map]; omega), comp_tx h hlo (by simp) ?_⟩
  try sizeOf_list_dec
  rw [join_jn]
  refine ⟨fits_of ?_, q⟩
  have z := sum_len (ys := l.map intTx) (m := 3) fun y hy => by
    obtain ⟨i, hi, rfl⟩ := List.mem_map.mp hy
    have h1 := h.ge i hi
    exact (tx_of (by omega) (h.le i hi)).1
  rw [List.length_map] at z ⊢
  omega
theorem box_text_ok {x : Bx} (h : x.Ok) (k : Nat) {W : Wd} {Q : Cn D} {X : Cx} (q : Q (.str x.text) W) : RR (clS (k + 1 + 1) 7 [x.d] W) Q X := by
  rw [u_box_text]
  unfold s_box_text
  cases x with
  | taps l =>
    have h : TapsOk (-99) l := h
    have := nums_len h (by decide)
    try sizeOf_list_dec
    rw [cut_from (by decide)]
    refine numbers_text_ok h (by decide) _ ?_
    try sizeOf_list_dec
    exact ⟨fits_of (by omega), q⟩
  | blend a b =>
    have h1 := nums_len h.1 (by decide)
    have h2 := nums_len h.2 (by decide)
    try sizeOf_list_dec
    refine numbers_text_ok h.1 (by decide) _ ?_
    try sizeOf_list_dec
    refine ⟨fits_of (by omega), fits_of (by simp; omega), ?_⟩
    try sizeOf_list_dec
    refine numbers_text_ok h.2 (by decide) _ ?_
    try sizeOf_list_dec
    exact ⟨fits_of (by simp; omega), q⟩
  | thin => sizeOf_list_dec; exact q
  | stretch => sizeOf_list_dec; exact q
  | gate => sizeOf_list_dec; exact q
theorem text_of_ok {x : Bx} (h : x.Ok) (k : Nat) {W : Wd} {Q : Cn D} {X : Cx} (q : Q (.str x.text) W) : RR (clS (k + 1) 4 [x.d] W) Q X := by
  rw [u__law_text_of]
  unfold s__law_text_of
  cases x with
  | taps l =>
    have h : TapsOk (-99) l := h
    have hl := h.len
    have hp := h.pos
    try sizeOf_list_dec
    rw [cut_from (by decide)]
    refine ⟨fits_of (by simp; omega), comp_tx h (by decide) (by simp) ?_⟩
    try sizeOf_list_dec
    refine ⟨fits_of (by simp; omega), ?_⟩
    have e : [D.str [116, 97, 112, 115]] ++ l.map (fun x => D.str (intTx x)) = (tTaps :: l.map intTx).map D.str := by simp
    have e2 : (tTaps :: l.map intTx).map (fun x => D.str x) = (tTaps :: l.map intTx).map D.str := rfl
    have e3 : strs? ((tTaps :: l.map intTx).map D.str) = some (tTaps :: l.map intTx) := by
      rw [← e2, strs_map, List.map_id']
    rw [e, e3]
    try sizeOf_list_dec
    rw [join_jn]
    refine ⟨fits_of ?_, ?_⟩
    · have z := sum_len (ys := l.map intTx) (m := 3) fun y hy => by
        obtain ⟨i, hi, rfl⟩ := List.mem_map.mp hy
        have h1 := h.ge i hi
        exact (tx_of (by omega) (h.le i hi)).1
      rw [List.length_map] at z
      rw [List.map_cons, List.sum_cons, List.length_map]
      simp only [List.length_cons, List.length_nil]
      omega
    · have e4 : jn (tTaps :: l.map intTx) = (Bx.taps l).text := by
        have hne : l.map intTx ≠ [] := fun z => by
          have := congrArg List.length z
          rw [List.length_map, List.length_nil] at this
          omega
        rw [← List.singleton_append, jn_app (by simp) hne, jn_one]
        simp [Bx.text, numsT]
      rw [e4]
      exact q
  | blend a b =>
    have ha := h.1.len
    have hb := h.2.len
    have ha1 := h.1.pos
    have hb1 := h.2.pos
    try sizeOf_list_dec
    refine ⟨fits_of (by simp; omega), comp_tx h.1 (by decide) (by simp) ?_⟩
    try sizeOf_list_dec
    refine ⟨fits_of (by simp; omega), ?_⟩
    try sizeOf_list_dec
    refine ⟨fits_of (by simp; omega), ?_⟩
    try sizeOf_list_dec
    refine ⟨fits_of (by simp; omega), comp_tx h.2 (by decide) (by simp) ?_⟩
    try sizeOf_list_dec
    refine ⟨fits_of (by simp; omega), ?_⟩
    have e : [D.str [98, 108, 101, 110, 100]] ++ a.map (fun x => D.str (intTx x)) ++ [D.str [44]] ++ b.map (fun x => D.str (intTx x)) = (([tBlend] ++ a.map intTx) ++ ([[44]] ++ b.map intTx)).map D.str := by simp [Function.comp_def]
    have e3 : ∀ l : List (List Nat), strs? (l.map D.str) = some l := fun l => by
      have := strs_map (f := fun x : List Nat => x) (l := l)
      rw [List.map_id'] at this
      exact this
    rw [e, e3]
    try sizeOf_list_dec
    rw [join_jn]
    refine ⟨fits_of ?_, ?_⟩
    · have z : ∀ l : List Int, TapsOk 0 l → ((l.map intTx).map (·.length)).sum ≤ l.length * 3 := fun l h => by
        have z := sum_len (ys := l.map intTx) (m := 3) fun y hy => by
          obtain ⟨i, hi, rfl⟩ := List.mem_map.mp hy
          have h1 := h.ge i hi
          exact (tx_of (by omega) (h.le i hi)).1
        rw [List.length_map] at z
        exact z
      have z1 := z a h.1
      have z2 := z b h.2
      simp only [List.map_append, List.sum_append, List.map_cons, List.map_nil, List.sum_cons, List.sum_nil, List.length_append, List.length_map, List.length_cons, List.length_nil] at z1 z2 ⊢
      omega
    · have hn : ∀ l : List Int, 1 ≤ l.length → l.map intTx ≠ [] := fun l hl z => by
        have := congrArg List.length z
        rw [List.length_map, List.length_nil] at this
        omega
      have e4 : jn (([tBlend] ++ a.map intTx) ++ ([[44]] ++ b.map intTx)) = (Bx.blend a b).text := by
        rw [jn_app (by simp) (by simp), jn_app (by simp) (hn a ha1), jn_app (by simp) (hn b hb1), jn_one, jn_one]
        simp [Bx.text, numsT]
      rw [e4]
      exact q
  | thin => sizeOf_list_dec; exact q
  | stretch => sizeOf_list_dec; exact q
  | gate => sizeOf_list_dec; exact q
/-! ### the law's own rates -/
theorem eqv_strs {W : Wd} {a b : List (List Nat)} (ha : ∀ x ∈ a, okS x = true) (hb : ∀ x ∈ b, okS x = true) : eqvD W (.lst (a.map D.str)) (.lst (b.map D.str)) = some (decide (a = b)) := by
  have tp : ∀ l : List (List Nat), toPys (l.map D.str) = some (l.map fun x => PyData.str ⟨x.toArray⟩) := fun l => by
    induction l with
    | nil => rfl
    | cons x l ih => simp [toPys, toPy, ih]
  have sh : ∀ l : List (List Nat), (∀ x ∈ l, okS x = true) → SeqAt.shaped (.list (l.map fun x => PyData.str ⟨x.toArray⟩)) = true := fun l hl => by
    have c : PyData.canLayAll0 (l.map fun x => PyData.str ⟨x.toArray⟩) = true := by
      induction l with
      | nil => rfl
      | cons x l ih =>
        have h1 := hl x (by simp)
        have h2 := ih fun y hy => hl y (by simp [hy])
        show (PyData.canLay0 (.str ⟨x.toArray⟩) && PyData.canLayAll0 (l.map fun x => PyData.str ⟨x.toArray⟩)) = true
        rw [h2, Bool.and_true]
        unfold PyData.canLay0 PyData.strOk
        unfold okS at h1
        simpa using h1
    have d : PyData.depthAll (l.map fun x => PyData.str ⟨x.toArray⟩) = 0 := by
      clear c hl
      induction l with
      | nil => rfl
      | cons x l ih =>
        show max 0 (PyData.depthAll (l.map fun x => PyData.str ⟨x.toArray⟩)) = 0
        rw [ih]; rfl
    unfold SeqAt.shaped
    show (PyData.canLayAll0 _ && decide (PyData.depthAll _ + 1 ≤ 64)) = true
    rw [c, d]; rfl
  have eq : ∀ a b : List (List Nat), PyData.eqvAll (a.map fun x => PyData.str ⟨x.toArray⟩) (b.map fun x => PyData.str ⟨x.toArray⟩) = decide (a = b) := fun a => by
    induction a with
    | nil => intro b; cases b <;> simp [PyData.eqvAll]
    | cons x a ih =>
      intro b
      cases b with
      | nil => simp [PyData.eqvAll]
      | cons y b =>
        show (PyData.eqv (.str ⟨x.toArray⟩) (.str ⟨y.toArray⟩) && PyData.eqvAll _ _) = _
        rw [ih]
        have e2 : PyData.eqv (.str ⟨x.toArray⟩) (.str ⟨y.toArray⟩) = decide (x = y) := by
          show ((⟨x.toArray⟩ : Str) == ⟨y.toArray⟩) = decide (x = y)
          by_cases h : x = y
          · subst h; simp
          · have h2 : (⟨x.toArray⟩ : Str) ≠ ⟨y.toArray⟩ := fun q => h (by simpa using congrArg (fun s : Str => s.cps.toList) q)
            rw [beq_eq_false_iff_ne.mpr h2, decide_eq_false h]
        rw [e2]
        simp [List.cons.injEq]
  unfold eqvD
  simp only [look, toPy, tp, Option.map_some]
  rw [sh a ha, sh b hb]
  exact congrArg some (eq a b)
theorem word_ok (x : Bx) : okS x.word = true := by cases x <;> rfl
theorem rates_ok {bs : List Bx} (hl : bs.length ≤ 1000) (k : Nat) {W : Wd} {Q : Cn D} {X : Cx} (q : Q (.lst (((bs.filter Bx.isR).map Bx.word).map D.str)) W) : RR (clS (k + 1) 14 [.lst (bs.map Bx.d)] W) Q X := by
  rw [u__law_rates]
  unfold s__law_rates
  try sizeOf_list_dec
  refine ⟨fits_of (by rw [List.length_map]; omega), comp_pure (f := fun x : Bx => .str x.word) (p := Bx.isR) (fun x hx => ?_) ?_⟩
  · cases x with
    | taps l => sizeOf_list_dec; try rfl
    | blend a b => sizeOf_list_dec; try rfl
    | thin => sizeOf_list_dec; try rfl
    | stretch => sizeOf_list_dec; try rfl
    | gate => sizeOf_list_dec; try rfl
  · try sizeOf_list_dec
    rw [List.map_map] at q
    exact q
theorem cut_last {xs : List D} : cutD xs (some (-1)) none = xs.getLast?.toList := by
  unfold cutD
  simp only [HT.sIx, if_pos (show (-1 : Int) < 0 by decide)]
  cases h : xs with
  | nil => rfl
  | cons x l =>
    rw [← h]
    have hl : 0 < xs.length := by rw [h]; simp
    have e : (-1 + (xs.length : Int)).toNat = xs.length - 1 := by omega
    rw [e, List.getLast?_eq_getElem?, List.getElem?_eq_getElem (by omega), List.drop_eq_getElem_cons (by omega), show xs.length - 1 + 1 = xs.length by omega, List.drop_length, show xs.length - (xs.length - 1) = 1 by omega]
    rfl
theorem law_fast_ok {bs : List Bx} {i : Nat} (hi : i < bs.length) (hl : bs.length ≤ 1000) (k : Nat) {W : Wd} {Q : Cn D} {X : Cx} (q : Q (.bl (fastP bs i)) W) : RR (clS (k + 1 + 1) 3 [.lst (bs.map Bx.d), .int i] W) Q X := by
  rw [u__law_is_fast]
  unfold s__law_is_fast
  try sizeOf_list_dec
  have e1 : cutD (bs.map Bx.d) (some ((i : Int) + 1)) none = (bs.drop (i + 1)).map Bx.d := by
    rw [cut_from (by omega), List.map_drop]; rfl
  have e2 : cutD (bs.map Bx.d) none (some (i : Int)) = (bs.take i).map Bx.d := by
    rw [cut_to (by omega), List.map_take]; rfl
  rw [e1]
  refine rates_ok (by rw [List.length_drop]; omega) _ ?_
  try sizeOf_list_dec
  have wo : ∀ l : List Bx, ∀ x ∈ l.map Bx.word, okS x = true := fun l x hx => by
    obtain ⟨y, _, rfl⟩ := List.mem_map.mp hx
    exact word_ok y
  have en := eqv_strs (W := W) (a := ((bs.drop (i + 1)).filter Bx.isR).map Bx.word) (b := []) (wo _) (by simp)
  rw [List.map_nil] at en
  rw [cNe_D, en]
  try sizeOf_list_dec
  unfold fastP at q
  cases hf : (bs.drop (i + 1)).filter Bx.isR with
  | cons y r =>
    have hh : (bs.drop (i + 1)).find? Bx.isR = some y := by rw [← List.head?_filter, hf]; rfl
    rw [hh] at q
    dsimp only at q
    have yr : y.isR = true := (List.mem_filter.mp (by rw [hf]; exact List.mem_cons_self)).2
    refine ⟨fun _ => ?_, fun h => absurd h (by simp)⟩
    try sizeOf_list_dec
    simp only [List.map_cons]
    try sizeOf_list_dec
    cases y with
    | thin => sizeOf_list_dec; exact q
    | stretch => sizeOf_list_dec; exact q
    | taps l => cases yr
    | blend a b => cases yr
    | gate => cases yr
  | nil =>
    have hh : (bs.drop (i + 1)).find? Bx.isR = none := by rw [← List.head?_filter, hf]; rfl
    rw [hh] at q
    dsimp only at q
    refine ⟨fun h => absurd h (by simp), fun _ => ?_⟩
    try sizeOf_list_dec
    rw [e2]
    refine rates_ok (by rw [List.length_take]; omega) _ ?_
    try sizeOf_list_dec
    rw [cut_last, List.getLast?_map, List.getLast?_map, List.getLast?_eq_head?_reverse, ← List.filter_reverse, List.head?_filter]
    cases hr : (bs.take i).reverse.find? Bx.isR with
    | none =>
      rw [hr] at q
      have en2 := eqv_strs (W := W) (a := []) (b := [tStretch]) (by simp) (by decide)
      simp only [Option.map_none, Option.toList]
      rw [cEq_D, show eqvD W (.lst []) (.lst [.str [115, 116, 114, 101, 116, 99, 104]]) = _ from en2]
      exact q
    | some y =>
      rw [hr] at q
      dsimp only at q
      have yr : y.isR = true := List.find?_some hr
      have en2 := eqv_strs (W := W) (a := [y.word]) (b := [tStretch]) (by simp [word_ok]) (by decide)
      simp only [Option.map_some, Option.toList]
      rw [cEq_D, show eqvD W (.lst [.str y.word]) (.lst [.str [115, 116, 114, 101, 116, 99, 104]]) = _ from en2]
      cases y with
      | thin => exact q
      | stretch => exact q
      | taps l => cases yr
      | blend a b => cases yr
      | gate => cases yr
end Kx
end VI
-- P7
set_option Elab.async false
set_option linter.all false
set_option maxRecDepth 100000
set_option maxHeartbeats 0
namespace VI
open PySem PySem.Spec PyProof.Rows L2
namespace Kx
theorem sub_dx {x : Bx} {W : Wd} {Q : Cn D} {X : Cx} : RR (pSub W x.d (.int 0)) Q X ↔ Q (.str x.word) W := by
  cases x <;> (simp only [dx_taps, dx_blend, dx_thin, dx_stretch, dx_gate, sub_tup, at0]; exact Iff.rfl)
local macro_rules | `(tactic| sizeOf_list_dec) => `(tactic| simp (decide := true) only [RR_ok, RR_exc, RR_no, RR_bind, RS_nx, RS_ret, RS_brk, RS_ct, RS_exc, RS_no, RS_on, RS_then, BO_some, BO_none, RR_rBo, RR_rB, EV_some, TR_bl, TR_int, TR_non, TR_lst, TR_tup, IT_lst, IT_tup, IT_str, EEp_var, EEp_con, EEp_glo, EEp_bin, EEp_adm, EEp_neg, EEp_cmp, TB_bl, EEp_chn, EEp_and, ETp_and, EEp_or, ETp_or, EEp_not, ETp_not, EEp_one, ETp_one, EEp_ife, EEp_sub, EPp_non, TI_int, EPp_of, EPp_con, EPp_var, EPp_bin, EPp_blt, EPp_neg, EPp_sub, EPp_call, EPp_att, EPp_lni, EPp_glo, EEp_sli, EEp_rev, EEp_non, EEp_tup, EEp_lst, EEp_mls, EAp_nil, EAp_cons, SQ_lst, SQ_tup, EAp_star, EEp_blt, EEp_isi, TS_str, EEp_join, EEp_call, EEp_calS, EEp_makS, EEp_calK, EEp_make, TN_ins, EEp_meth, EEp_att, EEp_lni, EEp_cat, EEp_mli, EEp_comp, EEp_mco, EEp_fsp, EAp_fpn, EAp_fpc, EEp_fmt, EEp_frz, EEp_app, EIp_rn1, EIp_rn2, TQ_lst, TQ_tup, EIp_enm, TZ_lst, TZ_tup, EIp_zip, RR_fep, RR_ftp, RR_fap, RR_fip, RS_fsp, ETp_var, ETp_con, ETp_cmp, ETp_chn, ETp_call, ETp_meth, ETp_att, ETp_blt, ETp_isi, EIp_ife, EIp_var, EIp_glo, EIp_con, EIp_sub, EIp_sli, EIp_rev, EIp_lst, EIp_tup, EIp_att, EIp_call, EIp_meth, EIp_comp, EIp_bin, SSp_skip, SSp_nil, SSp_seq, SSp_ex, SSp_ret, SSp_retN, SSp_set, SSp_par, SSp_sct, SSp_ite, SSp_forr, TF_ins, TL_lst, SSp_forw, SSp_whl, SSp_brk, SSp_cnt, SSp_gho, SSp_aug, SSp_sti, SSp_sta, RR_endS, ↓EE_var, ↓EE_con, ↓EE_glo, ↓EE_bin, ↓EE_adm, ↓EE_neg, ↓EE_cmp, ↓EE_chn, ↓EE_and, ↓ET_and, ↓EE_or, ↓ET_or, ↓EE_not, ↓ET_not, ↓EE_one, ↓ET_one, ↓EE_ife, ↓EE_sub, ↓EP_non, ↓EP_con, ↓EP_var, ↓EP_bin, ↓EP_blt, ↓EP_neg, ↓EP_sub, ↓EP_call, ↓EP_att, ↓EP_lni, ↓EP_glo, ↓EE_sli, ↓EE_rev, ↓EE_non, ↓EE_tup, ↓EE_lst, ↓EE_mls, ↓EA_nil, ↓EA_cons, ↓EA_star, ↓EE_blt, ↓EE_isi, ↓EE_join, ↓EE_call, ↓EE_calS, ↓EE_makS, ↓EE_calK, ↓EE_make, ↓EE_meth, ↓EE_att, ↓EE_lni, ↓EE_cat, ↓EE_mli, ↓EE_comp, ↓EE_mco, ↓EE_fsp, ↓EA_fpn, ↓EA_fpc, ↓EE_fmt, ↓EE_frz, ↓EE_app, ↓EI_rn1, ↓EI_rn2, ↓EI_enm, ↓EI_zip, ↓RR_fe, ↓RR_ft, ↓RR_fa, ↓RR_fi, ↓RS_fs, ↓ET_var, ↓ET_con, ↓ET_cmp, ↓ET_chn, ↓ET_call, ↓ET_meth, ↓ET_att, ↓ET_blt, ↓ET_isi, ↓EI_ife, ↓EI_var, ↓EI_glo, ↓EI_con, ↓EI_sub, ↓EI_sli, ↓EI_rev, ↓EI_lst, ↓EI_tup, ↓EI_att, ↓EI_call, ↓EI_meth, ↓EI_comp, ↓EI_bin, ↓SS_skip, ↓SS_nil, ↓SS_seq, ↓SS_ex, ↓SS_ret, ↓SS_retN, ↓SS_set, ↓SS_par, ↓SS_sct, ↓SS_ite, ↓SS_forr, ↓SS_forw, ↓SS_whl, ↓SS_brk, ↓SS_cnt, ↓SS_gho, ↓SS_aug, ↓SS_sti, ↓SS_sta, LS_lst, LS_ro, LM_lst, LI_ins, TH_at, TN_at, SQ_at, add_int, add_str, add_lst, add_tup, adm_at, adm_lst, sub_int, mul_int, mul_lst, mul_chr, div_int, mod_int, pow_int, shl_int, neg_int, cEq_int, cNe_int, cLt_int, cLe_int, cGt_int, cGe_int, cIs_non, cIsN_non, cIn_tup, cIn_lst, cNi_tup, cNi_lst, sub_lst, sub_tup, sub_str, sub_at, sli_lst, sli_tup, sli_str, sli_at, rev_lst, rev_tup, sti_at, sta_at, len_lst, len_tup, len_str, len_at, all_lst, any_lst, sum_lst, max_int, min_int, abs_int, str_int, int_int, int_bl, list_any, tuple_lst, tuple_tup, join_lst, fmt_val, fmt_vali, fmt_lft, fmt_rgt, frz_non, frz_bl, frz_int, frz_str, frz_lst, frz_tup, frz_ins, LF_lst, LF_ins, frz_at, aug_add, aug_sub, BO_any, AT_nil, AT_cons, ty_NoneType_bool, ty_NoneType_int, ty_NoneType_str, ty_NoneType_list, ty_NoneType_tuple, ty_bool_bool, ty_bool_int, ty_bool_str, ty_bool_list, ty_bool_tuple, ty_int_bool, ty_int_int, ty_int_str, ty_int_list, ty_int_tuple, ty_str_bool, ty_str_int, ty_str_str, ty_str_list, ty_str_tuple, ty_list_bool, ty_list_int, ty_list_str, ty_list_list, ty_list_tuple, ty_tuple_bool, ty_tuple_int, ty_tuple_str, ty_tuple_list, ty_tuple_tuple, ty_NoneType_c, ty_bool_c, ty_int_c, ty_str_c, ty_list_c, ty_tuple_c, at0, at1, at2, at3, at4, ix5_1, ix5_2, ix5_3, ix5_4, bools_map, ints_map, strs_map, cEq_str, cNe_str, eqF_str, eqF_int, cEq_bl, cNe_bl, List.getElem?_cons_zero, List.getElem?_cons_succ, List.set_cons_zero, List.set_cons_succ, List.length_cons, List.length_nil, bindG, bindG.binds, setP, wipeE, if_true, if_false, Nat.reduceAdd, Int.reduceAdd, Int.reduceSub, Int.reduceMul, Int.reduceNeg, Nat.reduceSub, true_implies, forall_const, Bool.false_eq_true, false_implies, and_true, true_and, not_true_eq_false, Bool.true_eq_false, isNon, Bool.not_true, Bool.not_false, reduceCtorEq, List.isEmpty_cons, List.isEmpty_nil, putD, Nat.zero_add, and_self, implies_true, flatD, List.all_cons, List.all_nil, List.any_cons, List.any_nil, decide_true, decide_false, Bool.or_false, Bool.or_true, Bool.true_or, Bool.false_or, Bool.and_true, Bool.true_and, Bool.and_false, Bool.false_and, Bool.and_self, Bool.or_self, tb_cl, tb_fld_0_3, tb_mth_0_1, tb_mth_0_2, tb_mth_0_6, tb_cat_0_5, tb_cat_0_4, tb_wlk_0_0, tb_lnm_0, tb_ini_0, tb_gl_0, tb_gl_1, tb_gl_2, tb_gl_3, tb_ck_0, sub_dx, TN_ch, TF_ch, dx_taps, dx_blend, dx_thin, dx_stretch, dx_gate])
local macro_rules | `(tactic| array_get_dec) => `(tactic| simp (decide := true) only [bindG, bindG.binds, List.length_cons, List.length_nil, if_true, List.set_cons_zero, List.set_cons_succ, BO_some, RS_fs, SS_seq])
/-- data that the law's comparison takes; n: how deep -/
inductive Sm : Nat → D → Prop
  | non (n : Nat) : Sm n .non
  | bl (n : Nat) (b : Bool) : Sm n (.bl b)
  | int (n : Nat) (i : Int) : Sm n (.int i)
  | str (n : Nat) (x : List Nat) (h : okS x = true) : Sm n (.str x)
  | lst (n : Nat) (xs : List D) (h : ∀ x ∈ xs, Sm n x) (hl : xs.length ≤ 16777216) : Sm (n + 1) (.lst xs)
  | tup (n : Nat) (xs : List D) (h : ∀ x ∈ xs, Sm n x) (hl : xs.length ≤ 16777216) : Sm (n + 1) (.tup xs)
theorem same_seq {k : Nat} {xs : List D} {W : Wd} {Q : Cn (List D)} {X : Cx} {d0 d1 : Option D} (h : ∀ x ∈ xs, ∀ (W : Wd) (Q : Cn D) (X : Cx), Q (.bl true) W → RR (clS k 0 [x, x] W) Q X) (q : Q (xs.map fun _ => .bl true) W) :
    RR (compL (.tup (.cons (.nm 2) (.cons (.nm 3) .nil))) (ev (tt.tb (clS k)) (.con (.bl true))).t (ev (tt.tb (clS k)) (.call 0 (.cons (.var 2) (.cons (.var 3) .nil)))).e [d0, d1, none, none] (List.zipWith (fun p q => .tup [p, q]) xs xs) W) Q X := by
  rw [List.zipWith_self]
  refine comp_pure (f := fun _ => .bl true) (p := fun _ => true) (fun x hx => ?_) ?_
  · repeat (first | sizeOf_list_dec | simp only [lookR, look])
    refine h x hx _ _ _ ?_
    exact ⟨rfl, rfl⟩
  · rw [List.filter_eq_self.mpr (by simp)]
    exact q
theorem same_ok : ∀ {n : Nat} {d : D}, Sm n d → ∀ (k : Nat) (W : Wd) (Q : Cn D) (X : Cx), Q (.bl true) W → RR (clS (k + n + 1) 0 [d, d] W) Q X := by
  intro n d h
  induction h with
  | non n =>
    intro k W Q X q
    rw [u__law_same]
    unfold s__law_same
    repeat (first | sizeOf_list_dec | simp only [BO_any])
    exact q
  | bl n b =>
    intro k W Q X q
    rw [u__law_same]
    unfold s__law_same
    repeat (first | sizeOf_list_dec | simp only [BO_any, beq_self_eq_true])
    exact q
  | int n i =>
    intro k W Q X q
    rw [u__law_same]
    unfold s__law_same
    repeat (first | sizeOf_list_dec | simp only [BO_any, beq_self_eq_true])
    exact q
  | str n x h =>
    intro k W Q X q
    rw [u__law_same]
    unfold s__law_same
    repeat (first | sizeOf_list_dec | simp only [BO_any, beq_self_eq_true, h])
    exact q
  | lst n xs h hl ih =>
    intro k W Q X q
    rw [u__law_same]
    unfold s__law_same
    repeat (first | sizeOf_list_dec | simp only [BO_any, beq_self_eq_true])
    refine ⟨fits_of (by simpa using hl), ?_⟩
    refine same_seq (fun x hx W Q X q => ?_) ?_
    · have g := ih x hx k W Q X q
      rw [show k + (n + 1) = k + n + 1 by omega]
      exact g
    · try sizeOf_list_dec
      have e : (xs.map fun _ => true).all id = true := by simp
      rw [e]
      exact q
  | tup n xs h hl ih =>
    intro k W Q X q
    rw [u__law_same]
    unfold s__law_same
    repeat (first | sizeOf_list_dec | simp only [BO_any, beq_self_eq_true])
    refine ⟨fits_of (by simpa using hl), ?_⟩
    refine same_seq (fun x hx W Q X q => ?_) ?_
    · have g := ih x hx k W Q X q
      rw [show k + (n + 1) = k + n + 1 by omega]
      exact g
    · try sizeOf_list_dec
      have e : (xs.map fun _ => true).all id = true := by simp
      rw [e]
      exact q
/-! ### lines of a table -/
def paceOf (bs : List Bx) (i : Nat) (x : Bx) : List Nat := if x.isTp && fastP bs i then [102, 97, 115, 116] else [115, 108, 111, 119]
def lineOf (bs : List Bx) (i : Nat) (x : Bx) : List Nat := [[32, 32, 48 + i], [32], x.word ++ List.replicate (7 - x.word.length) 32, [32], paceOf bs i x, [32], x.text.drop (x.word.length + 1)].flatten
def linesFrom (bs : List Bx) : Nat → List Bx → List D
  | _, [] => []
  | i, x :: r => .str (lineOf bs i x) :: linesFrom bs (i + 1) r
theorem lines_app {bs : List Bx} {x : Bx} : ∀ {l : List Bx} {i : Nat}, linesFrom bs i (l ++ [x]) = linesFrom bs i l ++ [.str (lineOf bs (i + l.length) x)]
  | [], i => rfl
  | y :: l, i => by
    show D.str _ :: linesFrom bs (i + 1) (l ++ [x]) = _
    rw [lines_app, List.length_cons, show i + 1 + l.length = i + (l.length + 1) by omega]
    rfl
theorem lines_len {bs : List Bx} : ∀ {l : List Bx} {i : Nat}, (linesFrom bs i l).length = l.length
  | [], _ => rfl
  | x :: l, i => by
    show (linesFrom bs (i + 1) l).length + 1 = _
    rw [lines_len]; rfl
theorem word_len (x : Bx) : x.word.length ≤ 7 ∧ 4 ≤ x.word.length := by cases x <;> simp [Bx.word]
theorem pace_len {bs : List Bx} {i : Nat} {x : Bx} : (paceOf bs i x).length = 4 ∧ okS (paceOf bs i x) = true := by
  unfold paceOf
  cases x.isTp && fastP bs i <;> exact ⟨rfl, by decide⟩
theorem line_ok {bs : List Bx} {i : Nat} {x : Bx} (hi : i < 10) (h : x.Ok) : okS (lineOf bs i x) = true := by
  unfold lineOf
  simp only [List.flatten_cons, List.flatten_nil]
  have r : okS (List.replicate (7 - x.word.length) 32) = true := by
    unfold okS
    rw [List.all_replicate]
    simp
  have f : okS [32, 32, 48 + i] = true := by
    unfold okS
    simp; omega
  exact okS_app f (okS_app (by decide) (okS_app (okS_app (word_ok x) r) (okS_app (by decide) (okS_app pace_len.2 (okS_app (by decide) (okS_app (okS_drop (text_ok h)) (by decide)))))))
theorem lines_sm {bs : List Bx} {n : Nat} : ∀ {l : List Bx} {i : Nat}, i + l.length ≤ 10 → (∀ x ∈ l, x.Ok) → ∀ d ∈ linesFrom bs i l, Sm n d
  | [], _, _, _, d, hd => by cases hd
  | x :: l, i, hi, hok, d, hd => by
    rw [List.length_cons] at hi
    rcases List.mem_cons.mp hd with rfl | hd
    · exact .str _ _ (line_ok (by omega) (hok x (by simp)))
    · exact lines_sm (l := l) (i := i + 1) (by omega) (fun y hy => hok y (by simp [hy])) d hd
theorem word_at {x : Bx} : ∃ r, x.d = .tup (.str x.word :: r) := by cases x <;> exact ⟨_, rfl⟩
theorem columns_ok {bs : List Bx} (G : Good bs) (k : Nat) {W : Wd} {Q : Cn D} {X : Cx} (q : ∀ W1, Frm [] W W1 → Q (.lst (linesFrom bs 0 bs)) W1) : RR (clS (k + 1 + 1 + 1 + 1 + 1) 1 [chD bs] W) Q X := by
  have hl := G.len
  rw [u_columns]
  unfold s_columns
  try sizeOf_list_dec
  refine for_ok (fun rest e W1 => ∃ i d2 d3 d4, i ≤ bs.length ∧ rest = enumL i ((bs.drop i).map Bx.d) ∧ e = [some (chD bs), some (.hd W.length), d2, d3, d4] ∧ W1[W.length]? = some (.lst (linesFrom bs 0 (bs.take i))) ∧ Frm [] W W1) ⟨0, _, _, _, Nat.zero_le _, rfl, rfl, get_app, Frm.app _⟩ ?_ ?_
  · rintro x rest e W1 ⟨i, d2, d3, d4, hi, hr, rfl, hW, F1⟩
    by_cases hlt : i < bs.length
    · rw [List.drop_eq_getElem_cons hlt, List.map_cons, enumL_cons] at hr
      obtain ⟨rfl, rfl⟩ := List.cons.inj hr
      have hx := G.ok bs[i] (List.getElem_mem hlt)
      have ht : bs.take (i + 1) = bs.take i ++ [bs[i]] := by rw [List.take_succ, List.getElem?_eq_getElem hlt]; rfl
      obtain ⟨r, hxd⟩ := @word_at bs[i]
      have pl := @pace_len bs i bs[i]
      have wl := word_len bs[i]
      have tl := text_len hx
      have hp : (if bs[i].isTp && fastP bs i then [102, 97, 115, 116] else [115, 108, 111, 119]) = paceOf bs i bs[i] := rfl
      repeat (first | array_get_dec | simp only [lookR, look])
      refine SS_cut (P := fun e W2 => W2 = W1 ∧ e = [some (chD bs), some (.hd W.length), some (.int i), some bs[i].d, some (.str (paceOf bs i bs[i]))]) ?_ ?_
      · try sizeOf_list_dec
        refine is_fast_ok hlt _ ?_
        try sizeOf_list_dec
        rw [← hp]
        refine ⟨fun h => ?_, fun h => ?_⟩
        · try sizeOf_list_dec
          rw [h] <;> rfl
        · try sizeOf_list_dec
          rw [h] <;> rfl
      rintro e W2 ⟨rfl, rfl⟩
      dsimp only
      repeat (first | sizeOf_list_dec | simp only [hW])
      refine ⟨⟨by omega, by omega⟩, ?_⟩
      try sizeOf_list_dec
      refine ⟨fits_of (by omega), Nat.ble_eq_true_of_le (by simp; omega), fits_of (by omega), Nat.ble_eq_true_of_le (by omega), ?_⟩
      refine box_text_ok hx _ ?_
      try sizeOf_list_dec
      refine ⟨fits_of (by omega), ?_⟩
      try sizeOf_list_dec
      refine ⟨fits_of (by omega), ?_⟩
      rw [cutN_from (by omega), show ((bs[i].word.length : Int) + 1).toNat = bs[i].word.length + 1 by omega]
      try sizeOf_list_dec
      refine ⟨fits_of (by rw [List.length_drop]; omega), Nat.ble_eq_true_of_le (by rw [List.length_drop]; omega), ?_⟩
      have es : ∀ l : List (List Nat), strs? (l.map fun x => D.str x) = some l := fun l => by
        rw [strs_map, List.map_id']
      rw [show ((i : Int)).toNat = i by omega]
      rw [show ([D.str [32, 32, 48 + i], D.str [32], D.str (bs[i].word ++ List.replicate (7 - bs[i].word.length) 32), D.str [32], D.str (paceOf bs i bs[i]), D.str [32], D.str (bs[i].text.drop (bs[i].word.length + 1))] : List D) = [[32, 32, 48 + i], [32], bs[i].word ++ List.replicate (7 - bs[i].word.length) 32, [32], paceOf bs i bs[i], [32], bs[i].text.drop (bs[i].word.length + 1)].map (fun x => D.str x) from rfl, es]
      repeat (first | sizeOf_list_dec | simp only [hW])
      refine ⟨fits_of (by rw [lines_len, List.length_take]; omega), i + 1, _, _, _, hlt, rfl, rfl, ?_, ?_⟩
      · rw [get_set hW, ht, lines_app, Nat.zero_add, List.length_take, Nat.min_eq_left (by omega)]
        rfl
      · exact ⟨by have := F1.len; simp; omega, fun j s hj hs => by
          rw [List.getElem?_set_ne (by have := lt_of_get hs; omega)]
          exact F1.at_ j s hj hs⟩
    · rw [List.drop_of_length_le (by omega)] at hr
      cases hr
  · rintro e W1 ⟨i, d2, d3, d4, hi, hr, rfl, hW, F1⟩
    have he : i = bs.length := by
      by_cases hlt : i < bs.length
      · rw [List.drop_eq_getElem_cons hlt, List.map_cons, enumL_cons] at hr
        cases hr
      · omega
    subst he
    rw [List.take_length] at hW
    repeat (first | sizeOf_list_dec | simp only [hW])
    exact q _ ⟨by have := F1.len; simp; omega, fun i s hi hs => by
      rw [List.getElem?_set_ne (by have := lt_of_get hs; omega)]
      exact F1.at_ i s hi hs⟩
/-! ### the law -/
theorem law_line {bs : List Bx} {i : Nat} {x : Bx} (hi : i < 10) : [32, 32] ++ intTx (i : Nat) ++ [32] ++ x.word ++ List.replicate (7 - x.word.length) 32 ++ [32] ++ paceOf bs i x ++ [32] ++ x.text.drop (x.word.length + 1) = lineOf bs i x := by
  have e : intTx ((i : Nat) : Int) = [48 + i] := tx_digit ⟨i, hi⟩
  rw [e]
  unfold lineOf
  simp
theorem law_ok {xs : List Int} (hx : xs.length ≤ 63) (k : Nat) : ∃ W, clS (k + 20) 23 [.hd 0] [.ro (xs.map D.int)] = .ok (.bl true) W := by
  have go : RR (clS (k + 19 + 1) 23 [.hd 0] [.ro (xs.map D.int)]) ⟨fun d _ => d = .bl true, .mk⟩ noX := by
    rw [u_law]
    unfold s_law
    try sizeOf_list_dec
    refine bag_ok hx _ (s := 0) rfl fun W1 B1 F1 => ?_
    try sizeOf_list_dec
    have B1 : Bag W1 1 (2 ^ 90) := B1
    refine for_ok (fun rest e W => ∃ i n x2 x3 x4 x5 x6 x7 x8 x9, rest = rangeL 0 1 i n ∧ n ≤ 4 ∧ e = [some (.hd 0), some (.hd 1), x2, x3, x4, x5, x6, x7, x8, x9] ∧ Bag W 1 (n * 2000)) ⟨0, 4, _, _, _, _, _, _, _, _, rfl, by decide, rfl, B1.mono (by decide)⟩ ?_ ?_
    · rintro x rest e W ⟨i, n, x2, x3, x4, x5, x6, x7, x8, x9, hr, hn, rfl, B⟩
      cases n with
      | zero => cases hr
      | succ n =>
        rw [rangeL_cons] at hr
        obtain ⟨rfl, rfl⟩ := List.cons.inj hr
        try sizeOf_list_dec
        refine any_boxes_ok (B.mono (show n * 2000 + 2000 ≤ _ by omega)) _ fun bs W2 G B2 F2 => ?_
        have hl := G.len
        try sizeOf_list_dec
        rw [List.length_map]
        refine ⟨by unfold small62; simp; omega, ?_⟩
        have hbl : 1 < W2.length := by
          obtain ⟨cells, a, r, m, n, hb, _⟩ := B2
          exact lt_of_get hb
        refine for_ok (fun rest e W3 => ∃ j x5 x7 x8 x9, j ≤ bs.length ∧ rest = rangeL 0 1 j (bs.length - j) ∧ e = [some (.hd 0), some (.hd 1), some (.int (0 + (i : Nat) * 1)), some (.lst (bs.map Bx.d)), some (.hd W2.length), x5, x6, x7, x8, x9] ∧ W3[W2.length]? = some (.lst (linesFrom bs 0 (bs.take j))) ∧ Bag W3 1 (n * 2000)) ⟨0, _, _, _, _, Nat.zero_le _, rfl, rfl, get_app, B2.frm (Frm.app (S := []) _) (by simp)⟩ ?_ ?_
        · rintro x rest e W3 ⟨j, x5, x7, x8, x9, hj, hr, rfl, hW, B3⟩
          by_cases hlt : j < bs.length
          · rw [show bs.length - j = bs.length - (j + 1) + 1 by omega, rangeL_cons] at hr
            obtain ⟨rfl, rfl⟩ := List.cons.inj hr
            have hx := G.ok bs[j] (List.getElem_mem hlt)
            have ej : (0 : Int) + (j : Int) * 1 = j := by omega
            have wl := word_len bs[j]
            have tl := text_len hx
            have pl := @pace_len bs j bs[j]
            have il : intTx ((j : Nat) : Int) = [48 + j] := tx_digit ⟨j, by omega⟩
            have at_ : atI (bs.map Bx.d) (j : Int) = some bs[j].d := by rw [atI_nat, List.getElem?_map, List.getElem?_eq_getElem hlt]; rfl
            array_get_dec
            simp only [ej]
            refine SS_cut (P := fun e W4 => W4 = W3 ∧ e = [some (.hd 0), some (.hd 1), some (.int (0 + (i : Nat) * 1)), some (.lst (bs.map Bx.d)), some (.hd W2.length), some (.int j), x6, some (.str bs[j].text), x8, x9]) ?_ ?_
            · repeat (first | sizeOf_list_dec | simp only [at_])
              refine text_of_ok hx _ ?_
              try sizeOf_list_dec
              try rfl
            rintro e W4 ⟨rfl, rfl⟩
            dsimp only
            refine SS_seq.mpr (SS_cut (P := fun e W5 => W5 = W4 ∧ e = [some (.hd 0), some (.hd 1), some (.int (0 + (i : Nat) * 1)), some (.lst (bs.map Bx.d)), some (.hd W2.length), some (.int j), x6, some (.str bs[j].text), some (.str bs[j].word), x9]) ?_ ?_)
            · repeat (first | sizeOf_list_dec | simp only [at_])
              try rfl
            rintro e W5 ⟨rfl, rfl⟩
            dsimp only
            refine SS_seq.mpr (SS_cut (P := fun e W6 => W6 = W5 ∧ e = [some (.hd 0), some (.hd 1), some (.int (0 + (i : Nat) * 1)), some (.lst (bs.map Bx.d)), some (.hd W2.length), some (.int j), x6, some (.str bs[j].text), some (.str bs[j].word), some (.str (paceOf bs j bs[j]))]) ?_ ?_)
            · repeat (first | sizeOf_list_dec | simp only [at_])
              refine ⟨by rw [word_ok]; rfl, ?_⟩
              have ht : decide (bs[j].word = [116, 97, 112, 115]) = bs[j].isTp := by
                cases bs[j] <;> rfl
              rw [ht]
              unfold paceOf
              cases htp : bs[j].isTp with
              | false =>
                try sizeOf_list_dec
                try rfl
              | true =>
                try sizeOf_list_dec
                refine law_fast_ok hlt (by omega) _ ?_
                try sizeOf_list_dec
                cases fastP bs j <;> (sizeOf_list_dec; try rfl)
            rintro e W6 ⟨rfl, rfl⟩
            dsimp only
            repeat (first | sizeOf_list_dec | simp only [hW])
            have eo : ofStr (Str.ofString (toString (j : Int))) = .str [48 + j] := congrArg D.str il
            refine ⟨log_small (by omega) (by omega), ?_⟩
            rw [eo]
            have en : (7 - (bs[j].word.length : Int)).toNat = 7 - bs[j].word.length := by omega
            have ed : cutN bs[j].text (some ((bs[j].word.length : Int) + 1)) none = bs[j].text.drop (bs[j].word.length + 1) := by
              rw [cutN_from (by omega), show ((bs[j].word.length : Int) + 1).toNat = bs[j].word.length + 1 by omega]
            have ht : bs.take (j + 1) = bs.take j ++ [bs[j]] := by rw [List.take_succ, List.getElem?_eq_getElem hlt]; rfl
            have ll : [32, 32] ++ [48 + j] ++ [32] ++ bs[j].word ++ List.replicate (7 - bs[j].word.length) 32 ++ [32] ++ paceOf bs j bs[j] ++ [32] ++ bs[j].text.drop (bs[j].word.length + 1) = lineOf bs j bs[j] := by
              unfold lineOf
              simp
            repeat (first | sizeOf_list_dec | simp only [hW, en, ed])
            rw [ll]
            repeat (first | (refine ⟨fits_of (by (try simp only [List.length_append, List.length_cons, List.length_nil, List.length_replicate, List.length_drop, pl.1, lines_len, List.length_take]); omega), ?_⟩) | (refine ⟨⟨by omega, by omega⟩, ?_⟩))
            refine ⟨j + 1, _, _, _, _, hlt, rfl, rfl, ?_, B3.frm (Frm.set (S := [W2.length]) (n := W2.length) (by simp)) (by simp; omega)⟩
            · rw [get_set hW, ht, lines_app, Nat.zero_add, List.length_take, Nat.min_eq_left (by omega)]
          · rw [show bs.length - j = 0 by omega] at hr
            cases hr
        · rintro e W3 ⟨j, x5, x7, x8, x9, hj, hr, rfl, hW, B3⟩
          have he : j = bs.length := by
            by_cases hlt : j < bs.length
            · rw [show bs.length - j = bs.length - (j + 1) + 1 by omega, rangeL_cons] at hr
              cases hr
            · omega
          subst he
          rw [List.take_length] at hW
          try sizeOf_list_dec
          refine chain_ok G _ fun W4 F4 => ?_
          have hW4 := F4.at_ _ _ (by simp) hW
          repeat (first | sizeOf_list_dec | simp only [hW4])
          have sm : Sm 2 (.lst [.lst (linesFrom bs 0 bs), .lst (linesFrom bs 0 bs)]) := .lst _ _ (fun d hd => by
            have e : d = .lst (linesFrom bs 0 bs) := by simpa using hd
            subst e
            exact .lst _ _ (fun d hd => lines_sm (by omega) G.ok d hd) (by rw [lines_len]; omega)) (by simp)
          refine columns_ok G _ fun W5 F5 => ?_
          try sizeOf_list_dec
          refine columns_ok G _ fun W6 F6 => ?_
          try sizeOf_list_dec
          refine same_ok sm (k + 16) _ _ _ ?_
          try sizeOf_list_dec
          refine ⟨i + 1, n, _, _, _, _, _, _, _, _, rfl, by omega, rfl, ?_⟩
          have b4 := B3.frm F4 (by simp)
          have b5 := b4.frm (Frm.set (S := [W2.length]) (n := W2.length) (s := .dead) (by simp)) (by simp; omega)
          exact (b5.frm F5 (by simp)).frm F6 (by simp)
    · rintro e W ⟨i, n, x2, x3, x4, x5, x6, x7, x8, x9, hr, hn, rfl, B⟩
      have G : Good [.taps [1, -2], .thin] := ⟨fun x hx => by
        have h : x = .taps [1, -2] ∨ x = .thin := by simpa using hx
        rcases h with rfl | rfl
        · exact ⟨by decide, by decide, by decide, by decide, ⟨1, by simp, by decide⟩⟩
        · exact trivial, ⟨true, _, rfl⟩, by decide, by decide⟩
      have el : linesFrom [.taps [1, -2], .thin] 0 [.taps [1, -2], .thin] = [.str [32, 32, 48, 32, 116, 97, 112, 115, 32, 32, 32, 32, 102, 97, 115, 116, 32, 49, 32, 45, 50], .str [32, 32, 49, 32, 116, 104, 105, 110, 32, 32, 32, 32, 115, 108, 111, 119, 32]] := by kernel_rfl
      try sizeOf_list_dec
      show RR (mkI (tt.tb (clS (k + 19))) 0 true ([Bx.taps [1, -2], .thin].map Bx.d) W) _ _
      refine make_ok G _ fun W2 F2 => ?_
      try sizeOf_list_dec
      refine columns_ok G _ fun W3 F3 => ?_
      rw [el]
      try sizeOf_list_dec
      refine same_ok (n := 1) (.lst _ _ (fun d hd => ?_) (by simp)) (k + 17) _ _ _ ?_
      · have h : d = .str [32, 32, 48, 32, 116, 97, 112, 115, 32, 32, 32, 32, 102, 97, 115, 116, 32, 49, 32, 45, 50] ∨ d = .str [32, 32, 49, 32, 116, 104, 105, 110, 32, 32, 32, 32, 115, 108, 111, 119, 32] := by simpa using hd
        rcases h with rfl | rfl <;> exact .str _ _ (by decide)
      · try sizeOf_list_dec
        try rfl
  obtain ⟨d, W, e, rfl⟩ := RR.get go
  exact ⟨W, e⟩
end Kx
end VI
-- K3
set_option Elab.async false
set_option linter.all false
set_option maxRecDepth 100000
set_option maxHeartbeats 0
namespace VI
open PySem PySem.Spec PyProof.Rows L2
namespace Kx
def d__law_same : He.DefD := ⟨("_law_same", none), "_law_same", "_law_same", defArgs (topS 37), defBody (topS 37), defScope (topS 37), [], []⟩
def d_columns : He.DefD := ⟨("columns", none), "columns", "columns", defArgs (topS 32), defBody (topS 32), defScope (topS 32), [], []⟩
def d__law_chain : He.DefD := ⟨("_law_chain", none), "_law_chain", "_law_chain", defArgs (topS 38), defBody (topS 38), defScope (topS 38), [], []⟩
def d__law_is_fast : He.DefD := ⟨("_law_is_fast", none), "_law_is_fast", "_law_is_fast", defArgs (topS 46), defBody (topS 46), defScope (topS 46), [], []⟩
def d__law_text_of : He.DefD := ⟨("_law_text_of", none), "_law_text_of", "_law_text_of", defArgs (topS 39), defBody (topS 39), defScope (topS 39), [], []⟩
def d__law_any_boxes : He.DefD := ⟨("_law_any_boxes", none), "_law_any_boxes", "_law_any_boxes", defArgs (topS 44), defBody (topS 44), defScope (topS 44), [], []⟩
def d__law_bag : He.DefD := ⟨("_law_bag", none), "_law_bag", "_law_bag", defArgs (topS 34), defBody (topS 34), defScope (topS 34), [], []⟩
def d_box_text : He.DefD := ⟨("box_text", none), "box_text", "box_text", defArgs (topS 20), defBody (topS 20), defScope (topS 20), [], []⟩
def d__law_draw : He.DefD := ⟨("_law_draw", none), "_law_draw", "_law_draw", defArgs (topS 35), defBody (topS 35), defScope (topS 35), [], []⟩
def d__law_box_span : He.DefD := ⟨("_law_box_span", none), "_law_box_span", "_law_box_span", defArgs (topS 43), defBody (topS 43), defScope (topS 43), [], []⟩
def d__law_any_taps : He.DefD := ⟨("_law_any_taps", none), "_law_any_taps", "_law_any_taps", defArgs (topS 40), defBody (topS 40), defScope (topS 40), [], []⟩
def d__law_slow_box : He.DefD := ⟨("_law_slow_box", none), "_law_slow_box", "_law_slow_box", defArgs (topS 42), defBody (topS 42), defScope (topS 42), [], []⟩
def d__law_of : He.DefD := ⟨("_law_of", none), "_law_of", "_law_of", defArgs (topS 36), defBody (topS 36), defScope (topS 36), [], []⟩
def d__law_any_side : He.DefD := ⟨("_law_any_side", none), "_law_any_side", "_law_any_side", defArgs (topS 41), defBody (topS 41), defScope (topS 41), [], []⟩
def d__law_rates : He.DefD := ⟨("_law_rates", none), "_law_rates", "_law_rates", defArgs (topS 45), defBody (topS 45), defScope (topS 45), [], []⟩
def d_is_integer : He.DefD := ⟨("is_integer", none), "is_integer", "is_integer", defArgs (topS 11), defBody (topS 11), defScope (topS 11), [], []⟩
def d_is_number : He.DefD := ⟨("is_number", none), "is_number", "is_number", defArgs (topS 12), defBody (topS 12), defScope (topS 12), [], []⟩
def d_are_taps : He.DefD := ⟨("are_taps", none), "are_taps", "are_taps", defArgs (topS 17), defBody (topS 17), defScope (topS 17), [], []⟩
def d_numbers_text : He.DefD := ⟨("numbers_text", none), "numbers_text", "numbers_text", defArgs (topS 19), defBody (topS 19), defScope (topS 19), [], []⟩
def d_span_of : He.DefD := ⟨("span_of", none), "span_of", "span_of", defArgs (topS 28), defBody (topS 28), defScope (topS 28), [], []⟩
def d_is_fast_place : He.DefD := ⟨("is_fast_place", none), "is_fast_place", "is_fast_place", defArgs (topS 27), defBody (topS 27), defScope (topS 27), [], []⟩
def d_check_rates : He.DefD := ⟨("check_rates", none), "check_rates", "check_rates", defArgs (topS 29), defBody (topS 29), defScope (topS 29), [], []⟩
def d_is_box : He.DefD := ⟨("is_box", none), "is_box", "is_box", defArgs (topS 18), defBody (topS 18), defScope (topS 18), [], []⟩
def d_law : He.DefD := ⟨("law", none), "law", "law", defArgs (topS 47), defBody (topS 47), defScope (topS 47), [], []⟩
def d_Chain___init__ : He.DefD := ⟨("Chain", some "__init__"), "__init__", "Chain.__init__", defArgs (memS 30 2), defBody (memS 30 2), defScope (memS 30 2), [], []⟩
def d_Chain_is_fast : He.DefD := ⟨("Chain", some "is_fast"), "is_fast", "Chain.is_fast", defArgs (memS 30 7), defBody (memS 30 7), defScope (memS 30 7), [], []⟩
def d_Chain_check_at : He.DefD := ⟨("Chain", some "check_at"), "check_at", "Chain.check_at", defArgs (memS 30 6), defBody (memS 30 6), defScope (memS 30 6), [], []⟩
def d_Chain_with_box : He.DefD := ⟨("Chain", some "with_box"), "with_box", "Chain.with_box", defArgs (memS 30 17), defBody (memS 30 17), defScope (memS 30 17), [], []⟩
def d_Chain___len__ : He.DefD := ⟨("Chain", some "__len__"), "__len__", "Chain.__len__", defArgs (memS 30 23), defBody (memS 30 23), defScope (memS 30 23), [], []⟩
def d_Chain_walk : He.DefD := ⟨("Chain", some "walk"), "walk", "Chain.walk", defArgs (memS 30 16), defBody (memS 30 16), defScope (memS 30 16), [], []⟩
def fnL : List He.DefD := [d__law_same, d_columns, d__law_chain, d__law_is_fast, d__law_text_of, d__law_any_boxes, d__law_bag, d_box_text, d__law_draw, d__law_box_span, d__law_any_taps, d__law_slow_box, d__law_of, d__law_any_side, d__law_rates, d_is_integer, d_is_number, d_are_taps, d_numbers_text, d_span_of, d_is_fast_place, d_check_rates, d_is_box, d_law, d_Chain___init__, d_Chain_is_fast, d_Chain_check_at, d_Chain_with_box, d_Chain___len__, d_Chain_walk]
theorem sc__law_same : FnScope n__law_same ["found", "due"] (defScope (topS 37)) := ⟨rfl, rfl, rfl, by decide +kernel, rfl, by decide +kernel, by decide +kernel⟩
theorem sc_columns : FnScope n_columns ["chain"] (defScope (topS 32)) := ⟨rfl, rfl, rfl, by decide +kernel, rfl, by decide +kernel, by decide +kernel⟩
theorem sc__law_chain : FnScope n__law_chain ["boxes"] (defScope (topS 38)) := ⟨rfl, rfl, rfl, by decide +kernel, rfl, by decide +kernel, by decide +kernel⟩
theorem sc__law_is_fast : FnScope n__law_is_fast ["boxes", "at"] (defScope (topS 46)) := ⟨rfl, rfl, rfl, by decide +kernel, rfl, by decide +kernel, by decide +kernel⟩
theorem sc__law_text_of : FnScope n__law_text_of ["box"] (defScope (topS 39)) := ⟨rfl, rfl, rfl, by decide +kernel, rfl, by decide +kernel, by decide +kernel⟩
theorem sc__law_any_boxes : FnScope n__law_any_boxes ["bag", "gates"] (defScope (topS 44)) := ⟨rfl, rfl, rfl, by decide +kernel, rfl, by decide +kernel, by decide +kernel⟩
theorem sc__law_bag : FnScope n__law_bag ["script"] (defScope (topS 34)) := ⟨rfl, rfl, rfl, by decide +kernel, rfl, by decide +kernel, by decide +kernel⟩
theorem sc_box_text : FnScope n_box_text ["box"] (defScope (topS 20)) := ⟨rfl, rfl, rfl, by decide +kernel, rfl, by decide +kernel, by decide +kernel⟩
theorem sc__law_draw : FnScope n__law_draw ["bag", "many"] (defScope (topS 35)) := ⟨rfl, rfl, rfl, by decide +kernel, rfl, by decide +kernel, by decide +kernel⟩
theorem sc__law_box_span : FnScope n__law_box_span ["box"] (defScope (topS 43)) := ⟨rfl, rfl, rfl, by decide +kernel, rfl, by decide +kernel, by decide +kernel⟩
theorem sc__law_any_taps : FnScope n__law_any_taps ["bag"] (defScope (topS 40)) := ⟨rfl, rfl, rfl, by decide +kernel, rfl, by decide +kernel, by decide +kernel⟩
theorem sc__law_slow_box : FnScope n__law_slow_box ["bag"] (defScope (topS 42)) := ⟨rfl, rfl, rfl, by decide +kernel, rfl, by decide +kernel, by decide +kernel⟩
theorem sc__law_of : FnScope n__law_of ["bag", "some"] (defScope (topS 36)) := ⟨rfl, rfl, rfl, by decide +kernel, rfl, by decide +kernel, by decide +kernel⟩
theorem sc__law_any_side : FnScope n__law_any_side ["bag"] (defScope (topS 41)) := ⟨rfl, rfl, rfl, by decide +kernel, rfl, by decide +kernel, by decide +kernel⟩
theorem sc__law_rates : FnScope n__law_rates ["boxes"] (defScope (topS 45)) := ⟨rfl, rfl, rfl, by decide +kernel, rfl, by decide +kernel, by decide +kernel⟩
theorem sc_is_integer : FnScope n_is_integer ["value"] (defScope (topS 11)) := ⟨rfl, rfl, rfl, by decide +kernel, rfl, by decide +kernel, by decide +kernel⟩
theorem sc_is_number : FnScope n_is_number ["value", "least", "most"] (defScope (topS 12)) := ⟨rfl, rfl, rfl, by decide +kernel, rfl, by decide +kernel, by decide +kernel⟩
theorem sc_are_taps : FnScope n_are_taps ["numbers", "least"] (defScope (topS 17)) := ⟨rfl, rfl, rfl, by decide +kernel, rfl, by decide +kernel, by decide +kernel⟩
theorem sc_numbers_text : FnScope n_numbers_text ["numbers"] (defScope (topS 19)) := ⟨rfl, rfl, rfl, by decide +kernel, rfl, by decide +kernel, by decide +kernel⟩
theorem sc_span_of : FnScope n_span_of ["box"] (defScope (topS 28)) := ⟨rfl, rfl, rfl, by decide +kernel, rfl, by decide +kernel, by decide +kernel⟩
theorem sc_is_fast_place : FnScope n_is_fast_place ["boxes", "at"] (defScope (topS 27)) := ⟨rfl, rfl, rfl, by decide +kernel, rfl, by decide +kernel, by decide +kernel⟩
theorem sc_check_rates : FnScope n_check_rates ["boxes"] (defScope (topS 29)) := ⟨rfl, rfl, rfl, by decide +kernel, rfl, by decide +kernel, by decide +kernel⟩
theorem sc_is_box : FnScope n_is_box ["value"] (defScope (topS 18)) := ⟨rfl, rfl, rfl, by decide +kernel, rfl, by decide +kernel, by decide +kernel⟩
theorem sc_law : FnScope n_law ["script"] (defScope (topS 47)) := ⟨rfl, rfl, rfl, by decide +kernel, rfl, by decide +kernel, by decide +kernel⟩
theorem sc_Chain___init__ : FnScope n_Chain___init__ ["self", "boxes"] (defScope (memS 30 2)) := ⟨rfl, rfl, rfl, by decide +kernel, rfl, by decide +kernel, by decide +kernel⟩
theorem sc_Chain_is_fast : FnScope n_Chain_is_fast ["self", "at"] (defScope (memS 30 7)) := ⟨rfl, rfl, rfl, by decide +kernel, rfl, by decide +kernel, by decide +kernel⟩
theorem sc_Chain_check_at : FnScope n_Chain_check_at ["self", "at", "most"] (defScope (memS 30 6)) := ⟨rfl, rfl, rfl, by decide +kernel, rfl, by decide +kernel, by decide +kernel⟩
theorem sc_Chain_with_box : FnScope n_Chain_with_box ["self", "at", "box"] (defScope (memS 30 17)) := ⟨rfl, rfl, rfl, by decide +kernel, rfl, by decide +kernel, by decide +kernel⟩
theorem sc_Chain___len__ : FnScope n_Chain___len__ ["self"] (defScope (memS 30 23)) := ⟨rfl, rfl, rfl, by decide +kernel, rfl, by decide +kernel, by decide +kernel⟩
section
variable {P : Program} {w : World} {K : PySem.W.Frag} {h : Heap} {mg : Str → Option Value} {base : Heap}
theorem wk (c : SaysW tt fnL K) : ∀ c m i, (c, m, i) ∈ tt.wlkL → Meth K (tt.cA K c) (tt.mN m) (He.fAd K (tt.cN c, some (tt.mN m))) → ∀ attr, (tt.flds.getD c [])[i]? = some attr → WalkM K (tt.cA K c) (tt.mN m) attr := by
  intro c1 m i e hm attr q
  have e2 : (c1, m, i) = ((0, 0, 0) : Nat × Nat × Nat) := by simpa [tt] using e
  cases e2
  have q2 : ("own_boxes" : Str) = attr := Option.some.inj q
  subst q2
  obtain ⟨fd, F⟩ := SaysW.def_ (by assumption : SaysW tt fnL K) 29 (d := d_Chain_walk) rfl
  exact ⟨"at", "box", "self", _, _, _, _, _, _, _, _, _, _, _, _, _, _, _, _, _, _, _, _, fd, hm, F, ⟨rfl, rfl, rfl, rfl, rfl, rfl, rfl, by decide, rfl, rfl, rfl⟩, fun _ _ _ _ _ _ _ => rfl, fun _ _ _ => rfl⟩
theorem fx (k : Nat) (X : K.In h) (g : h.Ns mainGlobals mg) (c : SaysW tt fnL K) : Facts (tt.tab K (clN k)) K mg := facts_of X g c.facts (wk c)
theorem lv (X : K.In h) (g : h.Ns mainGlobals mg) (c : SaysW tt fnL K) : ∀ k : Nat, (∀ f, FnR P w K mg base (CX P w) (2 * k) ((tt.tab K (clN k)).fna f) (spR K (tt.tab K (clN k)).G (clN k f))) ∧ KwAll P w K mg base (2 * k) (tt.tab K (clN k))
  | 0 => ⟨fun f => fnR_no fun vs H Q E ⟨_, _, _, _, _, _, q⟩ => q, fun f x kw e => ⟨(kwn_of X g c.facts e).1, (kwn_of X g c.facts e).2, fun A outer s H u v Q E hr e0 r ⟨_, _, _, _, _, _, q⟩ => q.elim⟩⟩
  | k + 1 => by
    obtain ⟨hf, hk⟩ := lv X g c k
    have fx := fx k X g c
    refine ⟨fun f => ?_, fun f x kw e => ?_⟩
    · match f with
      | 0 =>
        obtain ⟨fd, F⟩ := c.def_ 0 (d := d__law_same) rfl
        exact def_ok fx hk hf F sc__law_same (by decide) (fun _ _ _ _ _ _ us hl => match us, hl with | [_, _], _ => rfl) c__law_same
      | 1 =>
        obtain ⟨fd, F⟩ := c.def_ 1 (d := d_columns) rfl
        exact def_ok fx hk hf F sc_columns (by decide) (fun _ _ _ _ _ _ us hl => match us, hl with | [_], _ => rfl) c_columns
      | 2 =>
        obtain ⟨fd, F⟩ := c.def_ 2 (d := d__law_chain) rfl
        exact def_ok fx hk hf F sc__law_chain (by decide) (fun _ _ _ _ _ _ us hl => match us, hl with | [_], _ => rfl) c__law_chain
      | 3 =>
        obtain ⟨fd, F⟩ := c.def_ 3 (d := d__law_is_fast) rfl
        exact def_ok fx hk hf F sc__law_is_fast (by decide) (fun _ _ _ _ _ _ us hl => match us, hl with | [_, _], _ => rfl) c__law_is_fast
      | 4 =>
        obtain ⟨fd, F⟩ := c.def_ 4 (d := d__law_text_of) rfl
        exact def_ok fx hk hf F sc__law_text_of (by decide) (fun _ _ _ _ _ _ us hl => match us, hl with | [_], _ => rfl) c__law_text_of
      | 5 =>
        obtain ⟨fd, F⟩ := c.def_ 5 (d := d__law_any_boxes) rfl
        exact def_ok fx hk hf F sc__law_any_boxes (by decide) (fun _ _ _ _ _ _ us hl => match us, hl with | [_, _], _ => rfl) c__law_any_boxes
      | 6 =>
        obtain ⟨fd, F⟩ := c.def_ 6 (d := d__law_bag) rfl
        exact def_ok fx hk hf F sc__law_bag (by decide) (fun _ _ _ _ _ _ us hl => match us, hl with | [_], _ => rfl) c__law_bag
      | 7 =>
        obtain ⟨fd, F⟩ := c.def_ 7 (d := d_box_text) rfl
        exact def_ok fx hk hf F sc_box_text (by decide) (fun _ _ _ _ _ _ us hl => match us, hl with | [_], _ => rfl) c_box_text
      | 8 =>
        obtain ⟨fd, F⟩ := c.def_ 8 (d := d__law_draw) rfl
        exact def_ok fx hk hf F sc__law_draw (by decide) (fun _ _ _ _ _ _ us hl => match us, hl with | [_, _], _ => rfl) c__law_draw
      | 9 =>
        obtain ⟨fd, F⟩ := c.def_ 9 (d := d__law_box_span) rfl
        exact def_ok fx hk hf F sc__law_box_span (by decide) (fun _ _ _ _ _ _ us hl => match us, hl with | [_], _ => rfl) c__law_box_span
      | 10 =>
        obtain ⟨fd, F⟩ := c.def_ 10 (d := d__law_any_taps) rfl
        exact def_ok fx hk hf F sc__law_any_taps (by decide) (fun _ _ _ _ _ _ us hl => match us, hl with | [_], _ => rfl) c__law_any_taps
      | 11 =>
        obtain ⟨fd, F⟩ := c.def_ 11 (d := d__law_slow_box) rfl
        exact def_ok fx hk hf F sc__law_slow_box (by decide) (fun _ _ _ _ _ _ us hl => match us, hl with | [_], _ => rfl) c__law_slow_box
      | 12 =>
        obtain ⟨fd, F⟩ := c.def_ 12 (d := d__law_of) rfl
        exact def_ok fx hk hf F sc__law_of (by decide) (fun _ _ _ _ _ _ us hl => match us, hl with | [_, _], _ => rfl) c__law_of
      | 13 =>
        obtain ⟨fd, F⟩ := c.def_ 13 (d := d__law_any_side) rfl
        exact def_ok fx hk hf F sc__law_any_side (by decide) (fun _ _ _ _ _ _ us hl => match us, hl with | [_], _ => rfl) c__law_any_side
      | 14 =>
        obtain ⟨fd, F⟩ := c.def_ 14 (d := d__law_rates) rfl
        exact def_ok fx hk hf F sc__law_rates (by decide) (fun _ _ _ _ _ _ us hl => match us, hl with | [_], _ => rfl) c__law_rates
      | 15 =>
        obtain ⟨fd, F⟩ := c.def_ 15 (d := d_is_integer) rfl
        exact def_ok fx hk hf F sc_is_integer (by decide) (fun _ _ _ _ _ _ us hl => match us, hl with | [_], _ => rfl) c_is_integer
      | 16 =>
        obtain ⟨fd, F⟩ := c.def_ 16 (d := d_is_number) rfl
        exact def_ok fx hk hf F sc_is_number (by decide) (fun _ _ _ _ _ _ us hl => match us, hl with | [_, _, _], _ => rfl) c_is_number
      | 17 =>
        obtain ⟨fd, F⟩ := c.def_ 17 (d := d_are_taps) rfl
        exact def_ok fx hk hf F sc_are_taps (by decide) (fun _ _ _ _ _ _ us hl => match us, hl with | [_, _], _ => rfl) c_are_taps
      | 18 =>
        obtain ⟨fd, F⟩ := c.def_ 18 (d := d_numbers_text) rfl
        exact def_ok fx hk hf F sc_numbers_text (by decide) (fun _ _ _ _ _ _ us hl => match us, hl with | [_], _ => rfl) c_numbers_text
      | 19 =>
        obtain ⟨fd, F⟩ := c.def_ 19 (d := d_span_of) rfl
        exact def_ok fx hk hf F sc_span_of (by decide) (fun _ _ _ _ _ _ us hl => match us, hl with | [_], _ => rfl) c_span_of
      | 20 =>
        obtain ⟨fd, F⟩ := c.def_ 20 (d := d_is_fast_place) rfl
        exact def_ok fx hk hf F sc_is_fast_place (by decide) (fun _ _ _ _ _ _ us hl => match us, hl with | [_, _], _ => rfl) c_is_fast_place
      | 21 =>
        obtain ⟨fd, F⟩ := c.def_ 21 (d := d_check_rates) rfl
        exact def_ok fx hk hf F sc_check_rates (by decide) (fun _ _ _ _ _ _ us hl => match us, hl with | [_], _ => rfl) c_check_rates
      | 22 =>
        obtain ⟨fd, F⟩ := c.def_ 22 (d := d_is_box) rfl
        exact def_ok fx hk hf F sc_is_box (by decide) (fun _ _ _ _ _ _ us hl => match us, hl with | [_], _ => rfl) c_is_box
      | 23 =>
        obtain ⟨fd, F⟩ := c.def_ 23 (d := d_law) rfl
        exact def_ok fx hk hf F sc_law (by decide) (fun _ _ _ _ _ _ us hl => match us, hl with | [_], _ => rfl) c_law
      | 24 =>
        obtain ⟨fd, F⟩ := c.def_ 24 (d := d_Chain___init__) rfl
        exact def_star (pv := "boxes") (ps := ["self"]) fx hk hf F sc_Chain___init__ (by decide) (fun kV doc pm an cdv ct => StX.bind_star1 (p1 := "self") (pv := "boxes") (B := fun l => bindArgs (PySem.W.fnOf d_Chain___init__.name d_Chain___init__.qual d_Chain___init__.params d_Chain___init__.body d_Chain___init__.scope .none kV doc pm an cdv ct) ⟨l, []⟩) (fun _ => rfl) (fun _ _ _ => rfl)) c_Chain___init__
      | 25 =>
        obtain ⟨fd, F⟩ := c.def_ 25 (d := d_Chain_is_fast) rfl
        exact def_ok fx hk hf F sc_Chain_is_fast (by decide) (fun _ _ _ _ _ _ us hl => match us, hl with | [_, _], _ => rfl) c_Chain_is_fast
      | 26 =>
        obtain ⟨fd, F⟩ := c.def_ 26 (d := d_Chain_check_at) rfl
        exact def_ok fx hk hf F sc_Chain_check_at (by decide) (fun _ _ _ _ _ _ us hl => match us, hl with | [_, _, _], _ => rfl) c_Chain_check_at
      | 27 =>
        obtain ⟨fd, F⟩ := c.def_ 27 (d := d_Chain_with_box) rfl
        exact def_ok fx hk hf F sc_Chain_with_box (by decide) (fun _ _ _ _ _ _ us hl => match us, hl with | [_, _, _], _ => rfl) c_Chain_with_box
      | 28 =>
        obtain ⟨fd, F⟩ := c.def_ 28 (d := d_Chain___len__) rfl
        exact def_ok fx hk hf F sc_Chain___len__ (by decide) (fun _ _ _ _ _ _ us hl => match us, hl with | [_], _ => rfl) c_Chain___len__
      | _ + 29 => exact fnR_no fun vs H Q E ⟨_, _, _, _, _, _, q⟩ => q
    · obtain ⟨q1, q2⟩ := kwn_of (cl := clN (k + 1)) X g c.facts e
      refine ⟨q1, q2, ?_⟩
      match f, e with
      | 0, e =>
        have e2 : (("columns" : Str), ("chain" : Str)) = (x, kw) := Option.some.inj e
        cases e2
        obtain ⟨fd, F⟩ := c.def_ 1 (d := d_columns) rfl
        exact def_kw (x := "columns") fx hk hf F sc_columns (by decide) (fun _ _ _ _ _ _ _ => rfl) c_columns
      | n + 1, e => exact absurd e (by simp [Ttb.tab, tt, nm])
theorem law_fn (k : Nat) (X : K.In h) (g : h.Ns mainGlobals mg) (c : SaysW tt fnL K) {f : Addr} (hf : mg ("law" : Str) = some (.ref f)) :
    ∃ fd : FuncData, (∀ (s : Shared) (v : Value), BindsTo s fd ⟨[v], []⟩ [("script", v)]) ∧ ∀ base : Heap, K.In base → base.Ns mainGlobals mg → FnOk P w K mg base (CX P w) (2 * k + 1 + 1) f fd ["script"] (spR K (tt.tab K (clN k)).G (clN (k + 1) 23)) := by
  obtain ⟨fd, F⟩ := c.def_ 23 (d := d_law) rfl
  have e : some (Value.ref f) = some (.ref (He.fAd K ("law", none))) := hf.symm.trans ((fx k X g c).fnk 23 "law" rfl (by decide)).1
  cases e
  have b := FunD.bindsA (ps := ["script"]) F fun _ _ _ _ _ _ us hl => match us, hl with | [_], _ => rfl
  exact ⟨fd, fun s v => b s [v] rfl, fun base kb gb => def_fok (fx k kb gb c) (lv kb gb c k).2 (lv kb gb c k).1 F sc_law (by decide) c_law⟩
end
abbrev R : PySem.W.OpenRow := PySem.W.OpenLaw.row PySem.Challenge.rw_calmtaps_k62_tables_of_boxes
def loose0 : List PySem.Str := ["_wall", "__name__", "TapError", "Missing", "InvalidBox", "InvalidRate", "InvalidPlace", "InvalidText", "TooMany", "UnknownBox", "is_integer", "is_number", "KINDS", "MOST_TAPS", "GREATEST", "are_taps", "is_box", "numbers_text", "box_text", "read_number", "read_numbers", "read_next", "read_boxes", "RATES", "is_fast_place", "span_of", "check_rates", "Chain", "columns", "_law_bag"]
def loose1 : List PySem.Str := ["_law_draw", "_law_of", "_law_same", "_law_chain", "_law_text_of", "_law_any_taps", "_law_any_side", "_law_slow_box", "_law_box_span", "_law_any_boxes", "_law_rates", "_law_is_fast"]
abbrev looseA : List PySem.Str := loose0 ++ loose1
abbrev hk : PySem.W.Hook := hookW 5 tt fnL
def ob (s : PySem.W.SharedT) : He.AlD := obsW tt fnL (He.frG (HandSHeadRun.getT s) (asW (HandSHeadRun.getT s) 5))
theorem ob_eq (s : PySem.W.SharedT) : ob s = hk.obs s.abs := hookW_eq (HandSHeadRun.getT_eq s)
theorem run (w : World) : HandSHeadRun.RunEq R (PySem.W.view R.prog [47]) hk ob 12000 looseA w := by
  intro os
  kernel_rfl
end Kx
end VI
open PySem PySem.W PySem.Calls PyProof.Rows
set_option maxRecDepth 100000 in
theorem VI.Kx.holds_of (plain : ∀ ns : List Int, ns.length ≤ 63 → ∃ W, VI.Kx.lawN 40 ns = .ok (.bl true) W) : PySem.Challenge.rw_calmtaps_k62_tables_of_boxes.Holds := by
  w_on; o_law
  refine HandSHeadRun.head_any (r := OpenLaw.row PySem.Challenge.rw_calmtaps_k62_tables_of_boxes) (q := view (OpenLaw.row PySem.Challenge.rw_calmtaps_k62_tables_of_boxes).prog [47]) (H := VI.Kx.hk) (ob := VI.Kx.ob) (M := 12000) (loose := VI.Kx.looseA) (d := HandSHeadRun.topDef (OpenLaw.row PySem.Challenge.rw_calmtaps_k62_tables_of_boxes).prog 47) (kwd := []) VI.Kx.ob_eq
    (by kernel_rfl) (fun s => by kernel_rfl) VI.Kx.run (by kernel_rfl) (by kernel_rfl) (by kernel_rfl) (by rfl) (by first | assumption | decide +kernel) (by decide +kernel) ⟨rfl, rfl, rfl, rfl, rfl, by decide +kernel⟩ ?hw ?hc
  case hw => w_witness2
  case hc =>
    refine VI.walk_W (l := PySem.Challenge.rw_calmtaps_k62_tables_of_boxes) (n := 63) (k := 2 * 39 + 1 + 1) (x := "script") (CXw := fun w => L2.CX PySem.Challenge.rw_calmtaps_k62_tables_of_boxes.prog w) rfl (by decide) (by kernel_rfl) ⟨rfl, by decide, by decide⟩ ?F (fun _ _ _ _ _ ⟨_, _, _, _, _, _, _, _, _, _, _, _, z⟩ => z)
    intro w mg fa h Y G hmg0
    obtain ⟨K, KX, c⟩ := Y
    have hmg : mg ("law" : PySem.Str) = some (.ref fa) := by
      have e : (HandSHeadRun.topDef (OpenLaw.row PySem.Challenge.rw_calmtaps_k62_tables_of_boxes).prog 47).name = ("law" : PySem.Str) := by kernel_rfl
      rw [← e]
      exact hmg0
    obtain ⟨fd, hb, hF⟩ := VI.Kx.law_fn (P := (PySem.Challenge.rw_calmtaps_k62_tables_of_boxes).prog) (w := w) 39 KX G c hmg
    refine ⟨K, fd, _, KX, hb, fun H a ns hl ho hs => ?_, hF⟩
    obtain ⟨rw_, rl⟩ := VI.start_ok (G := (VI.Kx.tt.tab K (VI.Kx.clN 39)).G) c.facts ho hs
    obtain ⟨W, e⟩ := plain ns hl
    refine ⟨_, _, _, _, rw_, rl, ?_⟩
    show VI.Post K _ _ _ _ _ _ (VI.Kx.lawN 40 ns)
    rw [e]
    exact fun F' r' H' v _ _ rp => VI.Rep.bl rp
theorem VI.Kx.plainN (ns : List Int) (h : ns.length ≤ 63) : ∃ W, VI.Kx.lawN 40 ns = .ok (.bl true) W := by
  obtain ⟨W, e⟩ := VI.Kx.law_ok h 20
  rw [VI.Kx.clS_eq] at e
  exact ⟨W, e⟩
theorem PySem.Challenge.cw_calmtaps_k62_tables_of_boxes_holds : PySem.Challenge.rw_calmtaps_k62_tables_of_boxes.Holds := by
  exact VI.Kx.holds_of VI.Kx.plainN
