import PyProof.Rows.All
import Wide.All
import OpenK.AllK
import Wide.FinOn
import HandS.ForMost
import HandS.Exc
import HandS.Flow
import HandS.Deep
import HandS.TupAny
import KE.DataCmp
import KE.DataMinMax
import HandS.Codes
import HandS.Style
import HandS.TupLen
import HandS.Conv
import KE.SortData
import PyProof.ReprRoads
import HandS.More
import HandS.SetFor
import HandS.Text
import HandS.Replace
import HandS.Finally
import HandS.IsInst
import HandS.CallSlots
import HandS.ListItems
import HandS.Iter
import HandS.Zip
import HandS.Comp
import KE.GoesEnum
import HandS.WordsExc
import HandS.Defaults
import HandS.Ends
import HandS.HeadEnd
import HandS.Words
import HandS.Head0
import HandS.Head1
import HandS.Head2
import HandS.HeadHook1
import HandS.HeadHook2
import PyProof.Rows.ReprOcc
import PyProof.ReprLen
import PyProof.Rows.StrJoinMade
import PySem.Challenge.RW_hatsunseen_k69_whole_main_one_counts_for
set_option Elab.async false
set_option linter.all false
set_option maxRecDepth 100000
set_option autoImplicit false
/-! A: a plain evaluator's values, heaps, and how they lie in the model's. -/
namespace HA
open PySem PySem.Spec PyProof.Rows L2

inductive Va where
  | non | bl (b : Bool) | int (i : Int) | str (x : Str) | ref (l : Nat) | scr
  deriving DecidableEq
/-- objects -/
inductive Ob where
  | lst (xs : List Va)
  | tup (xs : List Va)
  | dK (kvs : List (Key × Va))
  | dT (kvs : List (List Key × Va))
  | xd (fs : List (Str × Va))
  deriving DecidableEq
abbrev Hh := List Ob
abbrev Sl := List (Option Va)

/-- what an evaluation gives -/
inductive RE (α : Type) where
  | ok (a : α) (h : Hh)
  | exc (c : Nat) (d : Nat) (h : Hh)
  | bad
def RE.bind {α β : Type} (r : RE α) (k : α → Hh → RE β) : RE β := match r with
  | .ok a h => k a h
  | .exc c d h => .exc c d h
  | .bad => .bad
def liftO {α : Type} (o : Option α) (h : Hh) : RE α := match o with
  | some a => .ok a h
  | none => .bad

/-! ### how they lie -/
/-- the fixed things: the fragment, the script's address and ints, the classes -/
structure Fx where
  K : PySem.W.Frag
  sa : Addr
  ns : List Int
  cl : Nat → Option Addr

/-- the script, where it stands -/
def ScrOk (K : PySem.W.Frag) (H : Hp) (a : Addr) (xs : List V) : Prop :=
  (∃ o, H a = some (.frz o (.lst xs))) ∨
    ∃ (o : Obj) (its : Array Value) (n : Nat), K.lookup a = some o ∧ o.cls = .type "list" ∧ o.dict = none ∧ o.data = .seq its n ∧ its.size ≤ sizeLine ∧ Vals xs its.toList
theorem ScrOk.seq {K : PySem.W.Frag} {H : Hp} {a : Addr} {xs : List V} (h : ScrOk K H a xs) : SqL K H a xs := h.elim (fun ⟨o, e⟩ => .inl (.inr ⟨o, e⟩)) .inr
theorem ScrOk.of {K : PySem.W.Frag} {H : Hp} {a : Addr} {xs : List V} (O : Only H) (h : SqL K H a xs) : ScrOk K H a xs := by
  rcases h with (h | ⟨o, h⟩) | h
  · rcases O a with z | ⟨o, ys, z⟩
    · rw [h] at z; cases z
    · rw [h] at z; cases z
  · exact .inl ⟨o, h⟩
  · exact .inr h

variable (S : Fx)
def RV (ρ : List Addr) : Va → V → Prop
  | .non, v => v = .non
  | .bl b, v => v = .bl b
  | .int i, v => v = .int i
  | .str x, v => v = .str x
  | .ref l, v => ∃ a, ρ[l]? = some a ∧ v = .ref a
  | .scr, v => v = .ref S.sa
abbrev RVs (ρ : List Addr) : List Va → List V → Prop := Paired (RV S ρ)
def RO (ρ : List Addr) : Ob → HO → Prop
  | .lst xs, o => ∃ vs, o = .lst vs ∧ RVs S ρ xs vs
  | .tup xs, o => ∃ vs, o = .tup vs ∧ RVs S ρ xs vs
  | .dK kvs, o => ∃ ws, o = .dK ws ∧ Paired (fun p q => p.1 = q.1 ∧ RV S ρ p.2 q.2) kvs ws
  | .dT kvs, o => ∃ ws, o = .dT ws ∧ Paired (fun p q => p.1 = q.1 ∧ RV S ρ p.2 q.2) kvs ws
  | .xd fs, o => ∃ ws, o = .xd ws ∧ Paired (fun p q => p.1 = q.1 ∧ RV S ρ p.2 q.2) fs ws
structure Mo (ρ : List Addr) (h : Hh) (H : Hp) : Prop where
  len : ρ.length = h.length
  inj : ∀ (l1 l2 : Nat) (a : Addr), ρ[l1]? = some a → ρ[l2]? = some a → l1 = l2 ∨ ∃ xs, h[l1]? = some (Ob.tup xs)
  obs : ∀ (l : Nat) (o : Ob), h[l]? = some o → ∃ a ho, ρ[l]? = some a ∧ H a = some ho ∧ RO S ρ o ho
  scr : ScrOk S.K H S.sa (S.ns.map V.int)
def RS (ρ : List Addr) (σ : Sl) (τ : L2.St) : Prop := σ.length = τ.length ∧ ∀ (i : Nat) (x : Va), σ[i]? = some (some x) → ∃ v, τ[i]? = some (some v) ∧ RV S ρ x v
/-- more labels -/
abbrev Le (ρ ρ' : List Addr) : Prop := ∃ m, ρ' = ρ ++ m

variable {S : Fx}
theorem Le.refl {ρ : List Addr} : Le ρ ρ := ⟨[], by simp⟩
theorem Le.trans {a b c : List Addr} (x : Le a b) (y : Le b c) : Le a c := by
  obtain ⟨m, rfl⟩ := x; obtain ⟨n, rfl⟩ := y; exact ⟨m ++ n, by simp⟩
theorem Le.get {ρ ρ' : List Addr} (e : Le ρ ρ') {l : Nat} {a : Addr} (h : ρ[l]? = some a) : ρ'[l]? = some a := by
  obtain ⟨m, rfl⟩ := e
  rw [List.getElem?_append_left]
  · exact h
  · exact (List.getElem?_eq_some_iff.mp h).1
theorem RV.le {ρ ρ' : List Addr} (e : Le ρ ρ') : ∀ {x : Va} {v : V}, RV S ρ x v → RV S ρ' x v
  | .non, _, h => h
  | .bl _, _, h => h
  | .int _, _, h => h
  | .str _, _, h => h
  | .ref l, _, ⟨a, h1, h2⟩ => ⟨a, e.get h1, h2⟩
  | .scr, _, h => h
theorem Paired.mono {α β : Type} {F G : α → β → Prop} (f : ∀ a b, F a b → G a b) {l₁ : List α} {l₂ : List β} (h : Paired F l₁ l₂) : Paired G l₁ l₂ := Paired.mapP h f
theorem Paired.app {α β : Type} {F : α → β → Prop} : ∀ {xs ys : List α} {us ws : List β}, Paired F xs us → Paired F ys ws → Paired F (xs ++ ys) (us ++ ws)
  | _, _, _, _, .nil, s => s
  | _, _, _, _, .cons r t, s => .cons r (Paired.app t s)
theorem Paired.get {α β : Type} {F : α → β → Prop} : ∀ {xs : List α} {us : List β} {i : Nat} {x : α}, Paired F xs us → xs[i]? = some x → ∃ u, us[i]? = some u ∧ F x u
  | _, _, _, _, .nil, e => by simp at e
  | _, _, 0, _, .cons r _, e => by simp at e; subst e; exact ⟨_, rfl, r⟩
  | _, _, i + 1, x, .cons _ t, e => by
    obtain ⟨u, h1, h2⟩ := Paired.get (i := i) (x := x) t (by simpa using e)
    exact ⟨u, by simpa using h1, h2⟩
theorem RVs.le {ρ ρ' : List Addr} (e : Le ρ ρ') {xs : List Va} {vs : List V} (h : RVs S ρ xs vs) : RVs S ρ' xs vs := Paired.mono (fun _ _ r => r.le e) h
theorem RO.le {ρ ρ' : List Addr} (e : Le ρ ρ') : ∀ {o : Ob} {ho : HO}, RO S ρ o ho → RO S ρ' o ho
  | .lst _, _, ⟨vs, h1, h2⟩ => ⟨vs, h1, RVs.le e h2⟩
  | .tup _, _, ⟨vs, h1, h2⟩ => ⟨vs, h1, RVs.le e h2⟩
  | .dK _, _, ⟨ws, h1, h2⟩ => ⟨ws, h1, Paired.mono (fun _ _ r => ⟨r.1, r.2.le e⟩) h2⟩
  | .dT _, _, ⟨ws, h1, h2⟩ => ⟨ws, h1, Paired.mono (fun _ _ r => ⟨r.1, r.2.le e⟩) h2⟩
  | .xd _, _, ⟨ws, h1, h2⟩ => ⟨ws, h1, Paired.mono (fun _ _ r => ⟨r.1, r.2.le e⟩) h2⟩
theorem RS.le {ρ ρ' : List Addr} (e : Le ρ ρ') {σ : Sl} {τ : L2.St} (h : RS S ρ σ τ) : RS S ρ' σ τ :=
  ⟨h.1, fun i x q => let ⟨v, a, b⟩ := h.2 i x q; ⟨v, a, b.le e⟩⟩
theorem RV.det {ρ : List Addr} : ∀ {x : Va} {v w : V}, RV S ρ x v → RV S ρ x w → v = w
  | .non, _, _, h, k => h.trans k.symm
  | .bl _, _, _, h, k => h.trans k.symm
  | .int _, _, _, h, k => h.trans k.symm
  | .str _, _, _, h, k => h.trans k.symm
  | .ref l, _, _, ⟨a, h1, h2⟩, ⟨b, k1, k2⟩ => by
    rw [h1] at k1; cases k1; exact h2.trans k2.symm
  | .scr, _, _, h, k => h.trans k.symm
theorem Mo.lt {ρ : List Addr} {h : Hh} {H : Hp} (M : Mo S ρ h H) {l : Nat} {a : Addr} (e : ρ[l]? = some a) : ∃ o, h[l]? = some o := by
  have : l < ρ.length := (List.getElem?_eq_some_iff.mp e).1
  rw [M.len] at this
  exact ⟨h[l], List.getElem?_eq_getElem this⟩
theorem Mo.at {ρ : List Addr} {h : Hh} {H : Hp} (M : Mo S ρ h H) {l : Nat} {a : Addr} {o : Ob} (e : ρ[l]? = some a) (q : h[l]? = some o) : ∃ ho, H a = some ho ∧ RO S ρ o ho := by
  obtain ⟨b, ho, e1, e2, e3⟩ := M.obs l o q
  rw [e] at e1; cases e1
  exact ⟨ho, e2, e3⟩
theorem Mo.lst {ρ : List Addr} {h : Hh} {H : Hp} (M : Mo S ρ h H) {l : Nat} {a : Addr} {xs : List Va} (e : ρ[l]? = some a) (q : h[l]? = some (.lst xs)) : ∃ vs, H a = some (.lst vs) ∧ RVs S ρ xs vs := by
  obtain ⟨ho, e2, vs, rfl, r⟩ := M.at e q
  exact ⟨vs, e2, r⟩
theorem Mo.tup {ρ : List Addr} {h : Hh} {H : Hp} (M : Mo S ρ h H) {l : Nat} {a : Addr} {xs : List Va} (e : ρ[l]? = some a) (q : h[l]? = some (.tup xs)) : ∃ vs, H a = some (.tup vs) ∧ RVs S ρ xs vs := by
  obtain ⟨ho, e2, vs, rfl, r⟩ := M.at e q
  exact ⟨vs, e2, r⟩
theorem Mo.dK {ρ : List Addr} {h : Hh} {H : Hp} (M : Mo S ρ h H) {l : Nat} {a : Addr} {kvs : List (Key × Va)} (e : ρ[l]? = some a) (q : h[l]? = some (.dK kvs)) :
    ∃ ws, H a = some (.dK ws) ∧ Paired (fun p q => p.1 = q.1 ∧ RV S ρ p.2 q.2) kvs ws := by
  obtain ⟨ho, e2, vs, rfl, r⟩ := M.at e q
  exact ⟨vs, e2, r⟩
theorem Mo.dT {ρ : List Addr} {h : Hh} {H : Hp} (M : Mo S ρ h H) {l : Nat} {a : Addr} {kvs : List (List Key × Va)} (e : ρ[l]? = some a) (q : h[l]? = some (.dT kvs)) :
    ∃ ws, H a = some (.dT ws) ∧ Paired (fun p q => p.1 = q.1 ∧ RV S ρ p.2 q.2) kvs ws := by
  obtain ⟨ho, e2, vs, rfl, r⟩ := M.at e q
  exact ⟨vs, e2, r⟩
/-- a heap that keeps all that is tracked -/
theorem Mo.same {ρ : List Addr} {h : Hh} {H H' : Hp} (M : Mo S ρ h H) (k : Same H H') : Mo S ρ h H' :=
  ⟨M.len, M.inj, fun l o q => let ⟨a, ho, e1, e2, e3⟩ := M.obs l o q; ⟨a, ho, e1, k _ _ e2, e3⟩, M.scr.elim (fun ⟨o, e⟩ => .inl ⟨o, k _ _ e⟩) .inr⟩
theorem same_upd {H : Hp} {p : Addr} {o : HO} (h : H p = none) : Same H (upd H p o) := fun b x e => by
  rw [upd_ne (ne_of_none e h)]
  exact e
/-- a new object -/
theorem Mo.new {ρ : List Addr} {h : Hh} {H : Hp} (M : Mo S ρ h H) {p : Addr} {o : Ob} {ho : HO} (n : H p = none) (r : RO S ρ o ho) : Mo S (ρ ++ [p]) (h ++ [o]) (upd H p ho) := by
  have M' := M.same (same_upd (o := ho) n)
  have nn : ∀ l : Nat, ρ[l]? ≠ some p := fun l e => by
    obtain ⟨o, q⟩ := M.lt e
    obtain ⟨ho, e2, _⟩ := M.at e q
    rw [n] at e2; cases e2
  have getS : ∀ l : Nat, (ρ ++ [p])[l]? = if l < ρ.length then ρ[l]? else if l = ρ.length then some p else none := fun l => by
    rw [List.getElem?_append]
    split
    · rfl
    · split
      · rename_i h1 h2; subst h2; simp
      · rename_i h1 h2; simp; omega
  have getH : ∀ l : Nat, (h ++ [o])[l]? = if l < h.length then h[l]? else if l = h.length then some o else none := fun l => by
    rw [List.getElem?_append]
    split
    · rfl
    · split
      · rename_i h1 h2; subst h2; simp
      · rename_i h1 h2; simp; omega
  refine ⟨by simp [M.len], fun l1 l2 a e1 e2 => ?_, fun l o' q => ?_, M'.scr⟩
  · rw [getS] at e1 e2
    split at e1
    · rename_i h1
      split at e2
      · rcases M.inj l1 l2 a e1 e2 with z | ⟨xs, z⟩
        · exact .inl z
        · refine .inr ⟨xs, ?_⟩
          rw [getH, if_pos (by rw [← M.len]; exact h1)]; exact z
      · split at e2
        · cases e2; exact absurd e1 (nn l1)
        · cases e2
    · split at e1
      · cases e1
        split at e2
        · exact absurd e2 (nn l2)
        · split at e2
          · exact .inl (by omega)
          · cases e2
      · cases e1
  · rw [getH] at q
    split at q
    · rename_i h1
      obtain ⟨a, ho', e1, e2, e3⟩ := M'.obs l o' q
      exact ⟨a, ho', Le.get ⟨[p], rfl⟩ e1, e2, e3.le ⟨[p], rfl⟩⟩
    · split at q
      · rename_i h1 h2
        cases q
        subst h2
        refine ⟨p, ho, ?_, upd_same, r.le ⟨[p], rfl⟩⟩
        rw [← M.len]; simp
      · cases q
end HA

namespace HA
open PySem PySem.Spec PyProof.Rows L2

/-! ### readings -/
variable {S : Fx}
/-- what is wanted of an exception -/
def XW (S : Fx) (W : WX) (ρ : List Addr) (c d : Nat) (h : Hh) (τ : L2.St) : Prop :=
  ∀ ρ' H' C a, Le ρ ρ' → Mo S ρ' h H' → S.cl c = some C → ρ'[d]? = some a → W (.ref C) (some a) τ H'
def Out {α β : Type} (S : Fx) (R : List Addr → α → β → Prop) (W : WX) (ρ : List Addr) (r : RE α) (τ : L2.St) (Q : β → Hp → Prop) : Prop :=
  match r with
  | .ok v h1 => ∀ ρ' x H', Le ρ ρ' → Mo S ρ' h1 H' → R ρ' v x → Q x H'
  | .exc c d h1 => (∃ C, S.cl c = some C) ∧ (∃ o, h1[d]? = some o) ∧ XW S W ρ c d h1 τ
  | .bad => False
def rd {α β : Type} (S : Fx) (R : List Addr → α → β → Prop) (W : WX) (f : Sl → Hh → RE α) (τ : L2.St) (H : Hp) (Q : β → Hp → Prop) : Prop :=
  ∃ ρ σ h, RS S ρ σ τ ∧ Mo S ρ h H ∧ Out S R W ρ (f σ h) τ Q
abbrev rdE (S : Fx) (W : WX) (f : Sl → Hh → RE Va) : TE := rd S (RV S) W f
abbrev rdA (S : Fx) (W : WX) (f : Sl → Hh → RE (List Va)) : TA := rd S (RVs S) W f
abbrev rdT (S : Fx) (W : WX) (f : Sl → Hh → RE Bool) : TT := rd S (fun _ (a b : Bool) => a = b) W f

theorem Out.mono {α β : Type} {R : List Addr → α → β → Prop} {W : WX} {ρ : List Addr} {r : RE α} {τ : L2.St} {Q Q' : β → Hp → Prop} (o : Out S R W ρ r τ Q) (f : ∀ x H, Q x H → Q' x H) : Out S R W ρ r τ Q' := by
  cases r with
  | ok v h1 => exact fun ρ' x H' a b c => f _ _ (o ρ' x H' a b c)
  | exc c d h1 => exact o
  | bad => exact o
theorem rd.mono {α β : Type} {R : List Addr → α → β → Prop} {W : WX} {f : Sl → Hh → RE α} {τ : L2.St} {H : Hp} {Q Q' : β → Hp → Prop} (o : rd S R W f τ H Q) (g : ∀ x H, Q x H → Q' x H) : rd S R W f τ H Q' := by
  obtain ⟨ρ, σ, h, rs, mo, o⟩ := o
  exact ⟨ρ, σ, h, rs, mo, o.mono g⟩
theorem Out.le {α β : Type} {R : List Addr → α → β → Prop} {W : WX} {ρ ρ' : List Addr} {r : RE α} {τ : L2.St} {Q : β → Hp → Prop} (o : Out S R W ρ r τ Q) (e : Le ρ ρ') : Out S R W ρ' r τ Q := by
  cases r with
  | ok v h1 => exact fun ρ2 x H' a b c => o ρ2 x H' (e.trans a) b c
  | exc c d h1 => exact ⟨o.1, o.2.1, fun ρ2 H' C a l m => o.2.2 ρ2 H' C a (e.trans l) m⟩
  | bad => exact o
/-- THE STEP: a part is evaluated, the rest goes on -/
theorem out_bind {α β γ δ : Type} {R : List Addr → α → β → Prop} {R' : List Addr → γ → δ → Prop} {W : WX} {f : Sl → Hh → RE α} {k : α → Hh → RE γ} {ρ : List Addr} {σ : Sl} {h : Hh} {τ : L2.St} {H : Hp} {Q : δ → Hp → Prop}
    (rs : RS S ρ σ τ) (mo : Mo S ρ h H) (o : Out S R' W ρ ((f σ h).bind k) τ Q) :
    rd S R W f τ H (fun x H1 => ∃ ρ2 h1 a, Le ρ ρ2 ∧ Mo S ρ2 h1 H1 ∧ R ρ2 a x ∧ Out S R' W ρ2 (k a h1) τ Q) := by
  refine ⟨ρ, σ, h, rs, mo, ?_⟩
  cases q : f σ h with
  | ok v h1 =>
    rw [q] at o
    exact fun ρ' x H' le m r => ⟨ρ', h1, v, le, m, r, Out.le (r := k v h1) o le⟩
  | exc c d h1 =>
    rw [q] at o
    exact o
  | bad =>
    rw [q] at o
    exact o.elim

theorem PE.weak {X : Cx} {e : Expr} {t t' : TE} (h : PE X e t) (w : ∀ τ H Q, t' τ H Q → t τ H Q) : PE X e t' := ⟨fun pins s σ H Q I q => h.run pins s σ H Q I (w _ _ _ q)⟩
theorem PT.weak {X : Cx} {e : Expr} {t t' : TT} (h : PT X e t) (w : ∀ τ H Q, t' τ H Q → t τ H Q) : PT X e t' := ⟨fun pins s σ H Q I q => h.run pins s σ H Q I (w _ _ _ q)⟩
theorem PA.weak {X : Cx} {e : List Expr} {t t' : TA} (h : PA X e t) (w : ∀ τ H Q, t' τ H Q → t τ H Q) : PA X e t' := ⟨fun pos pins s σ H Q I q => h.run pos pins s σ H Q I (w _ _ _ q)⟩
theorem PS.weak {X : Cx} {e : Stmt} {t t' : TS} (h : PS X e t) (w : ∀ D τ H, t' D τ H → t D τ H) : PS X e t' := ⟨fun pins s σ H D I q => h.run pins s σ H D I (w _ _ _ q)⟩
theorem PSs.weak {X : Cx} {e : List Stmt} {t t' : TS} (h : PSs X e t) (w : ∀ D τ H, t' D τ H → t D τ H) : PSs X e t' := ⟨fun pins s σ H D I q => h.run pins s σ H D I (w _ _ _ q)⟩

/-! ### operations by values -/
/-- an operation of ours and the layer's rule -/
def Op2 (S : Fx) (g : Va → Va → Hh → RE Va) (r : R2) : Prop :=
  ∀ (ρ : List Addr) (h : Hh) (H : Hp) (a b : Va) (x y : V) (W : WX) (τ : L2.St) (Q : VK), Mo S ρ h H → RV S ρ a x → RV S ρ b y → Out S (RV S) W ρ (g a b h) τ Q → r x y H Q
def Op1 (S : Fx) (g : Va → Hh → RE Va) (r : V → Hp → VK → Prop) : Prop :=
  ∀ (ρ : List Addr) (h : Hh) (H : Hp) (a : Va) (x : V) (W : WX) (τ : L2.St) (Q : VK), Mo S ρ h H → RV S ρ a x → Out S (RV S) W ρ (g a h) τ Q → r x H Q
def sem1 {α β : Type} (fa : Sl → Hh → RE α) (k : α → Hh → RE β) : Sl → Hh → RE β := fun σ h => (fa σ h).bind k
def sem2 {α β γ : Type} (fa : Sl → Hh → RE α) (fb : Sl → Hh → RE β) (k : α → β → Hh → RE γ) : Sl → Hh → RE γ := fun σ h => (fa σ h).bind fun a h1 => (fb σ h1).bind fun b h2 => k a b h2

theorem rd_op2 {W : WX} {fa fb : Sl → Hh → RE Va} {g : Va → Va → Hh → RE Va} {r : R2} (G : Op2 S g r) {τ : L2.St} {H : Hp} {Q : VK} (h : rdE S W (sem2 fa fb g) τ H Q) : tOp r (rdE S W fa) (rdE S W fb) τ H Q := by
  obtain ⟨ρ, σ, h, rs, mo, o⟩ := h
  refine rd.mono (out_bind rs mo o) fun x H1 ⟨ρ2, h1, a, le, m1, ra, o1⟩ => ?_
  refine rd.mono (out_bind (rs.le le) m1 o1) fun y H2 ⟨ρ3, h2, b, le2, m2, rb, o2⟩ => ?_
  exact G ρ3 h2 H2 a b x y W τ Q m2 (ra.le le2) rb o2
theorem rd_op1 {W : WX} {fa : Sl → Hh → RE Va} {g : Va → Hh → RE Va} {r : V → Hp → VK → Prop} (G : Op1 S g r) {τ : L2.St} {H : Hp} {Q : VK} (h : rdE S W (sem1 fa g) τ H Q) : tUn r (rdE S W fa) τ H Q := by
  obtain ⟨ρ, σ, h, rs, mo, o⟩ := h
  refine rd.mono (out_bind rs mo o) fun x H1 ⟨ρ2, h1, a, le, m1, ra, o1⟩ => ?_
  exact G ρ2 h1 H1 a x W τ Q m1 ra o1

/-- a new object -/
def alloc (o : Ob) (h : Hh) : RE Va := .ok (.ref h.length) (h ++ [o])
theorem out_alloc {W : WX} {ρ : List Addr} {h : Hh} {H : Hp} {τ : L2.St} {Q : VK} {o : Ob} {ho : HO} (m : Mo S ρ h H) (r : RO S ρ o ho) (q : Out S (RV S) W ρ (alloc o h) τ Q) : ∀ p, H p = none → Q (.ref p) (upd H p ho) := fun p hp => by
  refine q (ρ ++ [p]) (.ref p) _ ⟨[p], rfl⟩ (m.new hp r) ⟨p, ?_, rfl⟩
  rw [← m.len]
  simp

theorem RO.tup_of {ρ : List Addr} {o : Ob} {vs : List V} (r : RO S ρ o (.tup vs)) : ∃ xs, o = .tup xs := by
  cases o with
  | tup xs => exact ⟨xs, rfl⟩
  | lst xs => obtain ⟨ws, e, _⟩ := r; cases e
  | dK xs => obtain ⟨ws, e, _⟩ := r; cases e
  | dT xs => obtain ⟨ws, e, _⟩ := r; cases e
  | xd xs => obtain ⟨ws, e, _⟩ := r; cases e
/-- a tuple under a further label -/
theorem Mo.alias {ρ : List Addr} {h : Hh} {H : Hp} (M : Mo S ρ h H) {p : Addr} {xs : List Va} {vs : List V} (n : H p = some (.tup vs)) (r : RVs S ρ xs vs) : Mo S (ρ ++ [p]) (h ++ [.tup xs]) H := by
  have tp : ∀ l : Nat, ρ[l]? = some p → ∃ ys, h[l]? = some (.tup ys) := fun l e => by
    obtain ⟨o, q⟩ := M.lt e
    obtain ⟨ho, e2, e3⟩ := M.at e q
    rw [n] at e2; cases e2
    obtain ⟨ys, rfl⟩ := e3.tup_of
    exact ⟨ys, q⟩
  have getS : ∀ l : Nat, (ρ ++ [p])[l]? = if l < ρ.length then ρ[l]? else if l = ρ.length then some p else none := fun l => by
    rw [List.getElem?_append]
    split
    · rfl
    · split
      · rename_i h1 h2; subst h2; simp
      · rename_i h1 h2; simp; omega
  have getH : ∀ l : Nat, (h ++ [Ob.tup xs])[l]? = if l < h.length then h[l]? else if l = h.length then some (.tup xs) else none := fun l => by
    rw [List.getElem?_append]
    split
    · rfl
    · split
      · rename_i h1 h2; subst h2; simp
      · rename_i h1 h2; simp; omega
  refine ⟨by simp [M.len], fun l1 l2 a e1 e2 => ?_, fun l o' q => ?_, M.scr⟩
  · rw [getS] at e1 e2
    split at e1
    · rename_i h1
      have h1' : l1 < h.length := by rw [← M.len]; exact h1
      split at e2
      · rcases M.inj l1 l2 a e1 e2 with z | ⟨xs, z⟩
        · exact .inl z
        · refine .inr ⟨xs, ?_⟩
          rw [getH, if_pos h1']; exact z
      · split at e2
        · cases e2
          obtain ⟨ys, q⟩ := tp l1 e1
          exact .inr ⟨ys, by rw [getH, if_pos h1']; exact q⟩
        · cases e2
    · split at e1
      · rename_i h1 h2
        refine .inr ⟨xs, ?_⟩
        rw [getH, if_neg (by rw [← M.len]; exact h1), if_pos (by rw [← M.len]; exact h2)]
      · cases e1
  · rw [getH] at q
    split at q
    · rename_i h1
      obtain ⟨a, ho', e1, e2, e3⟩ := M.obs l o' q
      exact ⟨a, ho', Le.get ⟨[p], rfl⟩ e1, e2, e3.le ⟨[p], rfl⟩⟩
    · split at q
      · rename_i h1 h2
        cases q
        subst h2
        refine ⟨p, .tup vs, ?_, n, _, rfl, RVs.le ⟨[p], rfl⟩ r⟩
        rw [← M.len]; simp
      · cases q
theorem out_alias {W : WX} {ρ : List Addr} {h : Hh} {H : Hp} {τ : L2.St} {Q : VK} {p : Addr} {xs : List Va} {vs : List V} (m : Mo S ρ h H) (n : H p = some (.tup vs)) (r : RVs S ρ xs vs) (q : Out S (RV S) W ρ (alloc (.tup xs) h) τ Q) : Q (.ref p) H := by
  refine q (ρ ++ [p]) (.ref p) _ ⟨[p], rfl⟩ (m.alias n r) ⟨p, ?_, rfl⟩
  rw [← m.len]
  simp
/-! ### a changed object -/
theorem Mo.set {ρ : List Addr} {h : Hh} {H : Hp} (M : Mo S ρ h H) {l : Nat} {p : Addr} {o : Ob} {o' : Ob} {ho' : HO} (e : ρ[l]? = some p) (q : h[l]? = some o) (nt : ∀ xs, o ≠ .tup xs) (nt' : ∀ xs, o' ≠ .tup xs) (r : RO S ρ o' ho') : Mo S ρ (h.set l o') (upd H p ho') := by
  have hl : l < h.length := (List.getElem?_eq_some_iff.mp q).1
  have nf : ∀ ob xs, H p ≠ some (.frz ob xs) := fun ob xs z => by
    obtain ⟨ho, e2, e3⟩ := M.at e q
    rw [z] at e2; cases e2
    cases o with
    | tup xs => exact nt _ rfl
    | lst xs => obtain ⟨ws, e, _⟩ := e3; cases e
    | dK xs => obtain ⟨ws, e, _⟩ := e3; cases e
    | dT xs => obtain ⟨ws, e, _⟩ := e3; cases e
    | xd xs => obtain ⟨ws, e, _⟩ := e3; cases e
  have other : ∀ (l' : Nat) (a : Addr), l' ≠ l → ρ[l']? = some a → a ≠ p := fun l' a hne e1 z => by
    subst z
    rcases M.inj l l' _ e e1 with w | ⟨xs, w⟩
    · exact hne w.symm
    · rw [q] at w; cases w; exact nt _ rfl
  refine ⟨by rw [List.length_set]; exact M.len, fun l1 l2 a e1 e2 => ?_, fun l' ob q' => ?_, ?_⟩
  · rcases M.inj l1 l2 a e1 e2 with z | ⟨xs, z⟩
    · exact .inl z
    · refine .inr ⟨xs, ?_⟩
      rw [List.getElem?_set_ne]
      · exact z
      · rintro rfl; rw [q] at z; cases z; exact nt _ rfl
  · by_cases hl' : l' = l
    · subst hl'
      rw [List.getElem?_set_self hl] at q'
      cases q'
      exact ⟨p, ho', e, upd_same, r⟩
    · rw [List.getElem?_set_ne (Ne.symm hl')] at q'
      obtain ⟨a, ho, e1, e2, e3⟩ := M.obs l' ob q'
      exact ⟨a, ho, e1, by rw [upd_ne (other l' a hl' e1)]; exact e2, e3⟩
  · rcases M.scr with ⟨ob, z⟩ | z
    · refine .inl ⟨ob, ?_⟩
      rw [upd_ne]
      · exact z
      · rintro rfl; exact nf _ _ z
    · exact .inr z

/-! ### data -/
def datL (f : Va → Option PyData) : List Va → Option (List PyData)
  | [] => some []
  | x :: r => match f x with
    | some d => match datL f r with
      | some ds => some (d :: ds)
      | none => none
    | none => none
def dat : Nat → Hh → Va → Option PyData
  | _, _, .non => some .none
  | _, _, .bl b => some (.bool b)
  | _, _, .int i => some (.int i)
  | _, _, .str x => some (.str x)
  | _, _, .scr => none
  | 0, _, .ref _ => none
  | n + 1, h, .ref l => match h[l]? with
    | some (.lst xs) => match datL (dat n h) xs with
      | some ds => some (.list ds)
      | none => none
    | some (.tup xs) => match datL (dat n h) xs with
      | some ds => some (.tuple ds)
      | none => none
    | _ => none
theorem dp_all {ρ : List Addr} {H : Hp} {f : Va → Option PyData} (hf : ∀ a x d, RV S ρ a x → f a = some d → Dp S.K H x d) : ∀ {xs : List Va} {vs : List V} {ds : List PyData}, RVs S ρ xs vs → datL f xs = some ds → DpAll S.K H vs ds
  | [], _, ds, r, e => by cases r; cases e; exact .nil
  | a :: xs, _, ds, r, e => by
    cases r with
    | cons r1 r2 =>
      unfold datL at e
      split at e
      · rename_i d e1
        split at e
        · rename_i ds' e2
          cases e
          exact .cons (hf _ _ _ r1 e1) (dp_all hf r2 e2)
        · cases e
      · cases e
theorem dp_of {ρ : List Addr} {h : Hh} {H : Hp} (m : Mo S ρ h H) : ∀ (n : Nat) (a : Va) (x : V) (d : PyData), RV S ρ a x → dat n h a = some d → Dp S.K H x d := by
  intro n
  induction n with
  | zero =>
    intro a x d r e
    cases a with
    | non => cases r; cases e; exact .non
    | bl b => cases r; cases e; exact .bl b
    | int i => cases r; cases e; exact .int i
    | str y => cases r; cases e; exact .str y
    | ref l => cases e
    | scr => cases e
  | succ n ih =>
    intro a x d r e
    cases a with
    | non => cases r; cases e; exact .non
    | bl b => cases r; cases e; exact .bl b
    | int i => cases r; cases e; exact .int i
    | str y => cases r; cases e; exact .str y
    | scr => cases e
    | ref l =>
      obtain ⟨p, e1, rfl⟩ := r
      unfold dat at e
      split at e
      · rename_i xs q
        split at e
        · rename_i ds q2
          cases e
          obtain ⟨vs, e2, rv⟩ := m.lst e1 q
          exact .lst (.of e2) (dp_all ih rv q2)
        · cases e
      · rename_i xs q
        split at e
        · rename_i ds q2
          cases e
          obtain ⟨vs, e2, rv⟩ := m.tup e1 q
          exact .tup (.of e2) (dp_all ih rv q2)
        · cases e
      · cases e
end HA

namespace HA
open PySem PySem.Spec PyProof.Rows L2
variable {S : Fx}
abbrev BIG : Nat := 16777216
theorem big_eq : BIG = sizeLine := sizeLine_eq.symm

/-! ### arithmetic -/
def addV : Va → Va → Hh → RE Va
  | .int i, .int j, h => .ok (.int (i + j)) h
  | .str x, .str y, h => if x.length + y.length ≤ BIG then .ok (.str (x ++ y)) h else .bad
  | .ref l, .ref m, h => match h[l]?, h[m]? with
    | some (.lst xs), some (.lst ys) => if xs.length + ys.length ≤ BIG then alloc (.lst (xs ++ ys)) h else .bad
    | some (.tup xs), some (.tup ys) => if xs.length + ys.length ≤ BIG then alloc (.tup (xs ++ ys)) h else .bad
    | _, _ => .bad
  | _, _, _ => .bad
def rAddA (K : PySem.W.Frag) : R2 := fun x y H Q => rI0 (fun i j => .int (i + j)) x y H Q ∨ (∃ i j, x = .str i ∧ y = .str j ∧ i.length + j.length ≤ sizeLine ∧ Q (.str (i ++ j)) H) ∨ rCat x y H Q ∨ rCatA K x y H Q
theorem or_add {X : Cx} : OpR X (binaryOp .Add) (rAddA X.K) := op_add.or (op_add_str.or (op_cat.or op_catA))
theorem op2_add : Op2 S addV (rAddA S.K) := by
  intro ρ h H a b x y W τ Q m ra rb o
  unfold addV at o
  split at o
  · cases ra; cases rb
    exact .inl ⟨_, _, rfl, rfl, o ρ _ _ .refl m rfl⟩
  · cases ra; cases rb
    split at o
    · rename_i hz
      exact .inr (.inl ⟨_, _, rfl, rfl, by rw [← big_eq]; exact hz, o ρ _ _ .refl m rfl⟩)
    · exact o.elim
  · obtain ⟨p, e1, rfl⟩ := ra
    obtain ⟨q, e2, rfl⟩ := rb
    split at o
    · rename_i xs ys q1 q2
      split at o
      · rename_i hz
        obtain ⟨vs, g1, r1⟩ := m.lst e1 q1
        obtain ⟨ws, g2, r2⟩ := m.lst e2 q2
        have n1 := Paired.length r1
        have n2 := Paired.length r2
        refine .inr (.inr (.inl ⟨p, q, vs, ws, rfl, rfl, g1, g2, by rw [← big_eq, ← n1, ← n2]; exact hz, ?_⟩))
        exact out_alloc (o := .lst (xs ++ ys)) m ⟨_, rfl, Paired.app r1 r2⟩ o
      · exact o.elim
    · rename_i xs ys q1 q2
      split at o
      · rename_i hz
        obtain ⟨vs, g1, r1⟩ := m.tup e1 q1
        obtain ⟨ws, g2, r2⟩ := m.tup e2 q2
        have n1 := Paired.length r1
        have n2 := Paired.length r2
        refine .inr (.inr (.inr ⟨p, q, vs, ws, rfl, rfl, .of g1, .of g2, by rw [← big_eq, ← n1, ← n2]; exact hz, fun z => ?_, fun _ z => ?_, fun _ _ => ?_⟩))
        · subst z
          have e : xs = [] := List.eq_nil_of_length_eq_zero n1
          subst e
          exact out_alias (xs := [] ++ ys) m g2 r2 o
        · subst z
          have e : ys = [] := List.eq_nil_of_length_eq_zero n2
          subst e
          rw [List.append_nil] at o
          exact out_alias (xs := xs) m g1 r1 o
        · exact out_alloc (o := .tup (xs ++ ys)) m ⟨_, rfl, Paired.app r1 r2⟩ o
      · exact o.elim
    · exact o.elim
  · exact o.elim
def subV : Va → Va → Hh → RE Va
  | .int i, .int j, h => .ok (.int (i - j)) h
  | _, _, _ => .bad
theorem op2_sub : Op2 S subV (rI0 fun i j => .int (i - j)) := by
  intro ρ h H a b x y W τ Q m ra rb o
  unfold subV at o
  split at o
  · cases ra; cases rb
    exact ⟨_, _, rfl, rfl, o ρ _ _ .refl m rfl⟩
  · exact o.elim
abbrev B64 : Int := 18446744073709551616
def mulV : Va → Va → Hh → RE Va
  | .int i, .int j, h => if (-B64 < i ∧ i < B64) ∨ (-B64 < j ∧ j < B64) then .ok (.int (i * j)) h else .bad
  | .ref l, .int k, h => match h[l]? with
    | some (.lst xs) => if -9223372036854775808 ≤ k ∧ k < 9223372036854775808 ∧ xs.length * k.toNat ≤ BIG then alloc (.lst (List.replicate k.toNat xs).flatten) h else .bad
    | _ => .bad
  | _, _, _ => .bad
def rMulA : R2 := fun x y H Q => rI CMul (fun i j => .int (i * j)) x y H Q ∨ rRep x y H Q
theorem or_mul {X : Cx} : OpR X (binaryOp .Mult) rMulA := op_mul.or op_rep
theorem RVs.rep {ρ : List Addr} {xs : List Va} {vs : List V} (r : RVs S ρ xs vs) : ∀ k : Nat, RVs S ρ (List.replicate k xs).flatten (List.replicate k vs).flatten
  | 0 => .nil
  | k + 1 => by
    rw [List.replicate_succ, List.replicate_succ, List.flatten_cons, List.flatten_cons]
    exact Paired.app r (RVs.rep r k)
theorem op2_mul : Op2 S mulV rMulA := by
  intro ρ h H a b x y W τ Q m ra rb o
  unfold mulV at o
  split at o
  · cases ra; cases rb
    split at o
    · rename_i hz
      exact .inl ⟨_, _, rfl, rfl, hz, o ρ _ _ .refl m rfl⟩
    · exact o.elim
  · obtain ⟨p, e1, rfl⟩ := ra
    cases rb
    split at o
    · rename_i xs q1
      split at o
      · rename_i hz
        obtain ⟨vs, g1, r1⟩ := m.lst e1 q1
        have n1 := Paired.length r1
        refine .inr ⟨p, _, vs, rfl, rfl, g1, hz.1, hz.2.1, by rw [← big_eq, ← n1]; exact hz.2.2, ?_⟩
        exact out_alloc (o := .lst (List.replicate _ xs).flatten) m ⟨_, rfl, RVs.rep r1 _⟩ o
      · exact o.elim
    · exact o.elim
  · exact o.elim
def fdivV : Va → Va → Hh → RE Va
  | .int i, .int j, h => if 0 < j ∧ j < 1073741824 then .ok (.int (i / j)) h else .bad
  | _, _, _ => .bad
theorem op2_fdiv : Op2 S fdivV (rI CDiv fun i j => .int (i / j)) := by
  intro ρ h H a b x y W τ Q m ra rb o
  unfold fdivV at o
  split at o
  · cases ra; cases rb
    split at o
    · rename_i hz
      exact ⟨_, _, rfl, rfl, hz, o ρ _ _ .refl m rfl⟩
    · exact o.elim
  · exact o.elim
def modV : Va → Va → Hh → RE Va
  | .int i, .int j, h => if 0 < j then .ok (.int (i % j)) h else .bad
  | _, _, _ => .bad
theorem op2_mod : Op2 S modV (rI (fun _ j => 0 < j) fun i j => .int (i % j)) := by
  intro ρ h H a b x y W τ Q m ra rb o
  unfold modV at o
  split at o
  · cases ra; cases rb
    split at o
    · rename_i hz
      exact ⟨_, _, rfl, rfl, hz, o ρ _ _ .refl m rfl⟩
    · exact o.elim
  · exact o.elim
def powV : Va → Va → Hh → RE Va
  | .int i, .int j, h => if 0 ≤ j ∧ j ≤ 1000000 ∧ i.natAbs < 18446744073709551616 then .ok (.int (i ^ j.toNat)) h else .bad
  | _, _, _ => .bad
theorem op2_pow : Op2 S powV (rI CPow fun i j => .int (i ^ j.toNat)) := by
  intro ρ h H a b x y W τ Q m ra rb o
  unfold powV at o
  split at o
  · cases ra; cases rb
    split at o
    · rename_i hz
      exact ⟨_, _, rfl, rfl, hz, o ρ _ _ .refl m rfl⟩
    · exact o.elim
  · exact o.elim
def negV : Va → Hh → RE Va
  | .int i, h => .ok (.int (-i)) h
  | _, _ => .bad
theorem op1_neg : Op1 S negV (rU fun i => .int (-i)) := by
  intro ρ h H a x W τ Q m ra o
  unfold negV at o
  split at o
  · cases ra
    exact ⟨_, rfl, o ρ _ _ .refl m rfl⟩
  · exact o.elim

/-! ### comparisons -/
abbrev DD : Nat := 40
def eqD (neg : Bool) (a b : Va) (h : Hh) : RE Va := match dat DD h a, dat DD h b with
  | some d, some e => if SeqAt.shaped d = true ∧ SeqAt.shaped e = true then .ok (.bl (neg ^^ PyData.eqv d e)) h else .bad
  | _, _ => .bad
theorem op2_eq : Op2 S (eqD false) (rEqD S.K) := by
  intro ρ h H a b x y W τ Q m ra rb o
  unfold eqD at o
  split at o
  · rename_i d e q1 q2
    split at o
    · rename_i hz
      refine ⟨d, e, dp_of m _ _ _ _ ra q1, dp_of m _ _ _ _ rb q2, hz.1, hz.2, ?_⟩
      have := o ρ (.bl (false ^^ PyData.eqv d e)) _ .refl m rfl
      rwa [Bool.false_xor] at this
    · exact o.elim
  · exact o.elim
theorem op2_ne : Op2 S (eqD true) (rNeD S.K) := by
  intro ρ h H a b x y W τ Q m ra rb o
  unfold eqD at o
  split at o
  · rename_i d e q1 q2
    split at o
    · rename_i hz
      refine ⟨d, e, dp_of m _ _ _ _ ra q1, dp_of m _ _ _ _ rb q2, hz.1, hz.2, ?_⟩
      have := o ρ (.bl (true ^^ PyData.eqv d e)) _ .refl m rfl
      rwa [Bool.true_xor] at this
    · exact o.elim
  · exact o.elim
/-- < > <= >=, over ints, else over data -/
inductive Oo where
  | lt | le | gt | ge
  deriving DecidableEq
def ordI : Oo → Int → Int → Bool
  | .lt, i, j => decide (i < j)
  | .le, i, j => decide (i ≤ j)
  | .gt, i, j => decide (j < i)
  | .ge, i, j => decide (j ≤ i)
def ordD : Oo → PyData → PyData → Bool
  | .lt, d, e => PySem.W.dataLt d e
  | .le, d, e => !PySem.W.dataLt e d
  | .gt, d, e => PySem.W.dataLt e d
  | .ge, d, e => !PySem.W.dataLt d e
def opOf : Oo → CmpOp
  | .lt => .Lt | .le => .LtE | .gt => .Gt | .ge => .GtE
def dNone : PyData → Bool
  | .none => true
  | _ => false
theorem dNone_ne {d : PyData} (h : dNone d = false) : d ≠ .none := fun e => by rw [e] at h; cases h
def ordV (c : Oo) (a b : Va) (h : Hh) : RE Va := match a, b with
  | .int i, .int j => .ok (.bl (ordI c i j)) h
  | _, _ => match dat DD h a, dat DD h b with
    | some d, some e => if SeqAt.shaped d = true ∧ PySem.W.alike d e = true ∧ dNone d = false then .ok (.bl (ordD c d e)) h else .bad
    | _, _ => .bad
def rOrd (K : PySem.W.Frag) (c : Oo) : R2 := fun x y H Q => rI0 (fun i j => .bl (ordI c i j)) x y H Q ∨
  ∃ d e, Dp K H x d ∧ Dp K H y e ∧ SeqAt.shaped d = true ∧ PySem.W.alike d e = true ∧ d ≠ .none ∧ Q (.bl (ordD c d e)) H
theorem or_ord {X : Cx} (hu : X.A.units + 65 < cLine) (c : Oo) : OpR X (compareOp (opOf c)) (rOrd X.K c) := by
  intro pins s σ H x y v u Q I rx ry h
  rcases h with h | ⟨d, e, hd, he, sd, al, nn, q⟩
  · cases c
    · exact op_lt pins s σ H x y v u Q I rx ry h
    · exact op_le pins s σ H x y v u Q I rx ry h
    · exact op_gt pins s σ H x y v u Q I rx ry h
    · exact op_ge pins s σ H x y v u Q I rx ry h
  · obtain ⟨as, r1⟩ := Dp.reads I d x v hd rx
    obtain ⟨bs, r2⟩ := Dp.reads I e y u he ry
    have hdep := SeqAt.depth_of_shaped sd
    have hroom : X.A.units + min d.depth e.depth < cLine := by have := Nat.min_le_left d.depth e.depth; omega
    cases c
    · exact PySem.W.lt_data r1 r2 al nn hroom ⟨.bl _, H, I, rfl, q⟩
    · exact PySem.W.le_data r1 r2 al nn hroom ⟨.bl _, H, I, rfl, q⟩
    · exact PySem.W.gt_data r1 r2 al nn hroom ⟨.bl _, H, I, rfl, q⟩
    · exact PySem.W.ge_data r1 r2 al nn hroom ⟨.bl _, H, I, rfl, q⟩
theorem op2_ord (c : Oo) : Op2 S (ordV c) (rOrd S.K c) := by
  intro ρ h H a b x y W τ Q m ra rb o
  unfold ordV at o
  split at o
  · cases ra; cases rb
    exact .inl ⟨_, _, rfl, rfl, o ρ _ _ .refl m rfl⟩
  · split at o
    · rename_i d e q1 q2
      split at o
      · rename_i hz
        exact .inr ⟨d, e, dp_of m _ _ _ _ ra q1, dp_of m _ _ _ _ rb q2, hz.1, hz.2.1, dNone_ne hz.2.2, o ρ (.bl _) _ .refl m rfl⟩
      · exact o.elim
    · exact o.elim

/-! ### dicts: keys -/
def keyOf : Va → Option Key
  | .int i => some (.inl i)
  | .str x => some (.inr x)
  | _ => none
theorem keyOf_rel {ρ : List Addr} {a : Va} {x : V} {k : Key} (r : RV S ρ a x) (e : keyOf a = some k) : x = kV k := by
  cases a with
  | int i => cases e; exact r
  | str y => cases e; exact r
  | _ => cases e
def keysOf : List Va → Option (List Key)
  | [] => some []
  | a :: r => match keyOf a with
    | some k => match keysOf r with
      | some ks => some (k :: ks)
      | none => none
    | none => none
theorem keysOf_rel {ρ : List Addr} : ∀ {xs : List Va} {vs : List V} {ks : List Key}, RVs S ρ xs vs → keysOf xs = some ks → vs = ks.map kV
  | [], _, _, r, e => by cases r; cases e; rfl
  | a :: xs, _, ks, r, e => by
    cases r with
    | cons r1 r2 =>
      unfold keysOf at e
      split at e
      · rename_i k e1
        split at e
        · rename_i ks' e2
          cases e
          rw [keyOf_rel r1 e1, keysOf_rel r2 e2]
          rfl
        · cases e
      · cases e
/-- the value at a key: none: no dict or no such key form; some none: not there -/
def lookK {κ : Type} [DecidableEq κ] (kvs : List (κ × Va)) (k : κ) : Option Va := (kvs.find? fun kv => decide (kv.1 = k)).map (·.2)
theorem lookK_rel {κ : Type} [DecidableEq κ] {ρ : List Addr} (k : κ) : ∀ {kvs : List (κ × Va)} {ws : List (κ × V)}, Paired (fun p q => p.1 = q.1 ∧ RV S ρ p.2 q.2) kvs ws →
    (lookK kvs k = none ∧ valV ws k = none) ∨ ∃ a x, lookK kvs k = some a ∧ valV ws k = some x ∧ RV S ρ a x
  | [], _, .nil => .inl ⟨rfl, rfl⟩
  | (k1, a) :: kvs, _, .cons (b := (k2, x)) (l₂ := ws) h t => by
    obtain ⟨e, r⟩ := h
    have e : k1 = k2 := e
    subst e
    unfold lookK valV
    by_cases hk : k1 = k
    · refine .inr ⟨a, x, ?_, ?_, r⟩ <;> simp [List.find?_cons, hk]
    · rcases lookK_rel k t with ⟨h1, h2⟩ | ⟨b, y, h1, h2, h3⟩
      · refine .inl ⟨?_, ?_⟩
        · simp only [List.find?_cons, hk, decide_false]; exact h1
        · simp only [List.find?_cons, hk, decide_false]; exact h2
      · refine .inr ⟨b, y, ?_, ?_, h3⟩
        · simp only [List.find?_cons, hk, decide_false]; exact h1
        · simp only [List.find?_cons, hk, decide_false]; exact h2
def dLook (h : Hh) (l : Nat) (k : Va) : Option (Option Va) := match h[l]? with
  | some (.dK kvs) => match keyOf k with
    | some k => some (lookK kvs k)
    | none => match k with
      | .ref m => match h[m]? with
        | some (.tup xs) => if kvs = [] ∧ (keysOf xs).isSome = true then some none else none
        | _ => none
      | _ => none
  | some (.dT kvs) => match k with
    | .ref m => match h[m]? with
      | some (.tup xs) => match keysOf xs with
        | some ks => some (lookK kvs ks)
        | none => none
      | _ => none
    | _ => none
  | _ => none
/-- what the layer says of the dict at a and the key y; an empty one is both -/
def DGetA (H : Hp) (a : Addr) (y : V) (r : Option V) : Prop := DGet H a y r ∨ (r = none ∧ H a = some (.dK []) ∧ ∃ (b : Addr) (k : List Key), y = .ref b ∧ H b = some (.tup (k.map kV)))
theorem dLook_get {ρ : List Addr} {h : Hh} {H : Hp} {l : Nat} {p : Addr} {k : Va} {y : V} {r : Option Va} (m : Mo S ρ h H) (e : ρ[l]? = some p) (ry : RV S ρ k y) (q : dLook h l k = some r) :
    (r = none ∧ DGetA H p y none) ∨ ∃ a x, r = some a ∧ DGetA H p y (some x) ∧ RV S ρ a x := by
  unfold dLook at q
  split at q
  · rename_i kvs q1
    obtain ⟨ws, g, pr⟩ := m.dK e q1
    split at q
    · rename_i k' e2
      cases q
      rw [keyOf_rel ry e2]
      rcases lookK_rel k' pr with ⟨h1, h2⟩ | ⟨a, x, h1, h2, h3⟩
      · refine .inl ⟨h1, .inl ?_⟩
        rw [← h2]; exact DGet.k g
      · refine .inr ⟨a, x, h1, .inl ?_, h3⟩
        rw [← h2]; exact DGet.k g
    · split at q
      · rename_i mm
        split at q
        · rename_i xs q3
          split at q
          · rename_i hz
            cases q
            obtain ⟨b, e4, rfl⟩ := ry
            obtain ⟨vs, g2, rv⟩ := m.tup e4 q3
            obtain ⟨ks, hks⟩ := Option.isSome_iff_exists.mp hz.2
            have hw : ws = [] := by
              have hl := Paired.length pr
              rw [hz.1] at hl
              exact List.eq_nil_of_length_eq_zero hl.symm
            rw [hw] at g
            rw [keysOf_rel rv hks] at g2
            exact .inl ⟨rfl, .inr ⟨rfl, g, b, ks, rfl, g2⟩⟩
          · cases q
        · cases q
      · cases q
  · rename_i kvs q1
    obtain ⟨ws, g, pr⟩ := m.dT e q1
    split at q
    · rename_i mm
      split at q
      · rename_i xs q3
        split at q
        · rename_i ks e2
          cases q
          obtain ⟨b, e4, rfl⟩ := ry
          obtain ⟨vs, g2, rv⟩ := m.tup e4 q3
          rw [keysOf_rel rv e2] at g2
          rcases lookK_rel ks pr with ⟨h1, h2⟩ | ⟨a, x, h1, h2, h3⟩
          · refine .inl ⟨h1, .inl ?_⟩
            rw [← h2]; exact DGet.t g g2
          · refine .inr ⟨a, x, h1, .inl ?_, h3⟩
            rw [← h2]; exact DGet.t g g2
        · cases q
      · cases q
    · cases q
  · cases q
end HA

namespace HA
open PySem PySem.Spec PyProof.Rows L2
variable {S : Fx}

/-! ### an empty dict is both -/
section
variable {X : Cx} {pins : List (Addr × Obj)} {σ : L2.St} {H : Hp} {s : Shared} {a : Addr}
theorem Inv.asT (I : Inv X pins σ H s) (e : H a = some (.dK [])) : Inv X pins σ (upd H a (.dT [])) s := by
  obtain ⟨_, hd, vs, r, o, es, ep, h1, h2, h3, h4, h5, h6⟩ := (show ObjOk X.prog X.w H s.heap a (.dK []) from I.hok a _ e)
  cases r
  refine I.write (x := a) (e := a) (o := .dT []) (t' := s.toks) (h' := s.heap) (by rw [e]; exact True.intro) (.inl rfl) (fun b u _ q => q) ⟨_, h1⟩ ?_
  refine ⟨Nat.zero_le _, hd, [], .nil, o, es, ep, h1, h2, h3, ?_, List.nodup_nil⟩
  have : es.toList = [] := by
    cases hh : es.toList with
    | nil => rfl
    | cons x y => rw [hh] at h5; cases h5
  rw [this]; rfl
theorem Inv.asK (I : Inv X pins σ H s) (e : H a = some (.dT [])) : Inv X pins σ (upd H a (.dK [])) s := by
  obtain ⟨_, hd, xs, r, o, es, ep, h1, h2, h3, h4, h5⟩ := (show ObjOk X.prog X.w H s.heap a (.dT []) from I.hok a _ e)
  cases r
  refine I.write (x := a) (e := a) (o := .dK []) (t' := s.toks) (h' := s.heap) (by rw [e]; exact True.intro) (.inl rfl) (fun b u _ q => q) ⟨_, h1⟩ ?_
  have h4 : es.toList = [] := h4
  refine ⟨Nat.zero_le _, hd, [], .nil, o, es, ep, h1, h2, h3, ?_, ?_, List.nodup_nil⟩
  · intro x hx
    have : x ∈ es.toList := by simpa using hx
    rw [h4] at this
    cases this
  · rw [h4]; exact .nil
theorem upd_back {H : Hp} {a : Addr} {o o' : HO} (e : H a = some o) : upd (upd H a o') a o = H := by
  rw [upd_upd]
  funext b
  unfold upd
  split
  · rename_i hb; subst hb; exact e.symm
  · rfl
theorem Inv.back (e : H a = some (.dK [])) (I : Inv X pins σ (upd H a (.dT [])) s) : Inv X pins σ H s := by
  have := Inv.asK I (a := a) upd_same
  rwa [upd_back e] at this
theorem DGetA.typeIs (I : Inv X pins σ H s) {y : V} {o : Option V} (g : DGetA H a y o) : s.TypeIs (.ref a) "dict" := by
  rcases g with g | ⟨_, e, _⟩
  · exact dict_typeIs I g
  · exact dict_typeIs I (DGet.k (k := Sum.inl 0) e)
theorem DGetA.t {y : V} {o : Option V} {b : Addr} {k : List Key} (hn : o = none) (e : H a = some (.dK [])) (ey : y = .ref b) (eb : H b = some (.tup (k.map kV))) : DGet (upd H a (.dT [])) a y o := by
  subst hn; subst ey
  have hne : b ≠ a := by rintro rfl; rw [e] at eb; cases eb
  exact DGet.t (kvs := []) (k := k) upd_same (by rw [upd_ne hne]; exact eb)
theorem in_dict {y : V} {u : Value} {o : Option V} {A : Around} {E : Value → Shared → Prop} {Q : Value → Shared → Prop} (hu : A.units + 1 < cLine) (I : Inv X pins σ H s) (g : DGetA H a y o) (ry : RelV y u) (h : ∀ s', Inv X pins σ H s' → Q (.bool o.isSome) s') :
    wpAny (model X.prog X.w) A (compareOp .In u (.ref a)) Q E s := by
  rcases g with g | ⟨hn, e, b, k, ey, eb⟩
  · exact d_in hu I g ry h
  · exact d_in hu (Inv.asT I e) (DGetA.t hn e ey eb) ry fun s' I' => h s' (Inv.back e I')
theorem notIn_dict {y : V} {u : Value} {o : Option V} {A : Around} {E : Value → Shared → Prop} {Q : Value → Shared → Prop} (hu : A.units + 1 < cLine) (I : Inv X pins σ H s) (g : DGetA H a y o) (ry : RelV y u) (h : ∀ s', Inv X pins σ H s' → Q (.bool (!o.isSome)) s') :
    wpAny (model X.prog X.w) A (compareOp .NotIn u (.ref a)) Q E s := by
  rcases g with g | ⟨hn, e, b, k, ey, eb⟩
  · exact d_notIn hu I g ry h
  · exact d_notIn hu (Inv.asT I e) (DGetA.t hn e ey eb) ry fun s' I' => h s' (Inv.back e I')
theorem get2_dict {y d : V} {u r : Value} {o : Option V} {A : Around} {E : Value → Shared → Prop} {Q : Value → Shared → Prop} (hu : A.units + 1 < cLine) (I : Inv X pins σ H s) (g : DGetA H a y o) (ry : RelV y u) (rd : RelV d r) (h : ∀ w' s', Inv X pins σ H s' → RelV (o.getD d) w' → Q w' s') :
    wpAny (model X.prog X.w) A (call (.builtin "dict.get") [.ref a, u, r]) Q E s := by
  rcases g with g | ⟨hn, e, b, k, ey, eb⟩
  · exact d_get2 hu I g ry rd h
  · exact d_get2 hu (Inv.asT I e) (DGetA.t hn e ey eb) ry rd fun w' s' I' => h w' s' (Inv.back e I')
theorem get1_dict {y : V} {u : Value} {o : Option V} {A : Around} {E : Value → Shared → Prop} {Q : Value → Shared → Prop} (hu : A.units + 1 < cLine) (I : Inv X pins σ H s) (g : DGetA H a y o) (ry : RelV y u) (h : ∀ w' s', Inv X pins σ H s' → RelV (o.getD .non) w' → Q w' s') :
    wpAny (model X.prog X.w) A (call (.builtin "dict.get") [.ref a, u]) Q E s := by
  rcases g with g | ⟨hn, e, b, k, ey, eb⟩
  · exact d_get1 hu I g ry h
  · exact d_get1 hu (Inv.asT I e) (DGetA.t hn e ey eb) ry fun w' s' I' => h w' s' (Inv.back e I')
end

/-! ### in, not in -/
def inV (ng : Bool) (a b : Va) (h : Hh) : RE Va := match a, b with
  | .str i, .str j => .ok (.bl (ng ^^ !(Builtin.Str.occurrences j i 0 j.length 1).isEmpty)) h
  | a, .ref m => match h[m]? with
    | some (.lst _) | some (.tup _) => match dat DD h a, dat DD h (.ref m) with
      | some d, some (.list ds) => if SeqAt.shaped d = true ∧ SeqAt.shaped (.list ds) = true then .ok (.bl (ng ^^ ds.any fun z => PyData.eqv z d)) h else .bad
      | some d, some (.tuple ds) => if SeqAt.shaped d = true ∧ SeqAt.shaped (.tuple ds) = true then .ok (.bl (ng ^^ ds.any fun z => PyData.eqv z d)) h else .bad
      | _, _ => .bad
    | some (.dK _) | some (.dT _) => match dLook h m a with
      | some r => .ok (.bl (ng ^^ r.isSome)) h
      | none => .bad
    | _ => .bad
  | _, _ => .bad
def rInA (K : PySem.W.Frag) (ng : Bool) : R2 := fun x y H Q =>
  (∃ i j, x = .str i ∧ y = .str j ∧ Q (.bl (ng ^^ !(Builtin.Str.occurrences j i 0 j.length 1).isEmpty)) H) ∨
  (∃ d ds, Dp K H x d ∧ (Dp K H y (.list ds) ∨ Dp K H y (.tuple ds)) ∧ SeqAt.shaped d = true ∧ SeqAt.shaped (.list ds) = true ∧ Q (.bl (ng ^^ ds.any fun z => PyData.eqv z d)) H) ∨
  (∃ a o, y = .ref a ∧ DGetA H a x o ∧ Q (.bl (ng ^^ o.isSome)) H)
theorem or_in {X : Cx} (hu : X.A.units + 65 < cLine) : OpR X (compareOp .In) (rInA X.K false) := by
  intro pins s σ H x y v u Q I rx ry h
  rcases h with ⟨i, j, rfl, rfl, q⟩ | ⟨d, ds, hd, he, sd, se, q⟩ | ⟨a, o, rfl, g, q⟩
  · exact op_in_str pins s σ H _ _ v u Q I rx ry ⟨i, j, rfl, rfl, by rw [Bool.false_xor] at q; exact q⟩
  · rw [Bool.false_xor] at q
    obtain ⟨as, r1⟩ := Dp.reads I d x v hd rx
    rcases he with he | he
    · obtain ⟨bs, r2⟩ := Dp.reads I (.list ds) y u he ry
      exact SeqAt.in_list_reads r2 r1 (SeqAt.canLay_of_shaped se) (SeqAt.canLay_of_shaped sd) (room_in_shaped sd hu) ⟨.bl _, H, I, rfl, q⟩
    · obtain ⟨bs, r2⟩ := Dp.reads I (.tuple ds) y u he ry
      exact SeqAt.in_tuple_reads r2 r1 (SeqAt.canLay_of_shaped se) (SeqAt.canLay_of_shaped sd) (room_in_shaped sd hu) ⟨.bl _, H, I, rfl, q⟩
  · rw [Bool.false_xor] at q
    cases ry
    exact in_dict (by omega) I g rx fun s' I' => ⟨.bl _, H, I', rfl, q⟩
theorem or_notIn {X : Cx} (hu : X.A.units + 65 < cLine) : OpR X (compareOp .NotIn) (rInA X.K true) := by
  intro pins s σ H x y v u Q I rx ry h
  rcases h with ⟨i, j, rfl, rfl, q⟩ | ⟨d, ds, hd, he, sd, se, q⟩ | ⟨a, o, rfl, g, q⟩
  · exact L2.op_notIn_str pins s σ H _ _ v u Q I rx ry ⟨i, j, rfl, rfl, by rw [Bool.true_xor] at q; exact q⟩
  · rw [Bool.true_xor] at q
    obtain ⟨as, r1⟩ := Dp.reads I d x v hd rx
    rcases he with he | he
    · obtain ⟨bs, r2⟩ := Dp.reads I (.list ds) y u he ry
      exact SeqAt.notIn_list_reads r2 r1 (SeqAt.canLay_of_shaped se) (SeqAt.canLay_of_shaped sd) (room_in_shaped sd hu) ⟨.bl _, H, I, rfl, q⟩
    · obtain ⟨bs, r2⟩ := Dp.reads I (.tuple ds) y u he ry
      exact SeqAt.notIn_tuple_reads r2 r1 (SeqAt.canLay_of_shaped se) (SeqAt.canLay_of_shaped sd) (room_in_shaped sd hu) ⟨.bl _, H, I, rfl, q⟩
  · rw [Bool.true_xor] at q
    cases ry
    exact notIn_dict (by omega) I g rx fun s' I' => ⟨.bl _, H, I', rfl, q⟩
theorem shaped_tl {ds : List PyData} : SeqAt.shaped (.tuple ds) = SeqAt.shaped (.list ds) := rfl
theorem op2_in (ng : Bool) : Op2 S (inV ng) (rInA S.K ng) := by
  intro ρ h H a b x y W τ Q m ra rb o
  unfold inV at o
  split at o
  · cases ra; cases rb
    exact .inl ⟨_, _, rfl, rfl, o ρ (.bl _) _ .refl m rfl⟩
  · rename_i mm
    have seq : Out S (RV S) W ρ (match dat DD h a, dat DD h (.ref mm) with
      | some d, some (.list ds) => if SeqAt.shaped d = true ∧ SeqAt.shaped (.list ds) = true then .ok (.bl (ng ^^ ds.any fun z => PyData.eqv z d)) h else .bad
      | some d, some (.tuple ds) => if SeqAt.shaped d = true ∧ SeqAt.shaped (.tuple ds) = true then .ok (.bl (ng ^^ ds.any fun z => PyData.eqv z d)) h else .bad
      | _, _ => .bad) τ Q → rInA S.K ng x y H Q := fun o => by
      split at o
      · rename_i d ds q1 q2
        split at o
        · rename_i hz
          exact .inr (.inl ⟨d, ds, dp_of m _ _ _ _ ra q1, .inl (dp_of m _ _ _ _ rb q2), hz.1, hz.2, o ρ (.bl _) _ .refl m rfl⟩)
        · exact o.elim
      · rename_i d ds q1 q2
        split at o
        · rename_i hz
          exact .inr (.inl ⟨d, ds, dp_of m _ _ _ _ ra q1, .inr (dp_of m _ _ _ _ rb q2), hz.1, by rw [← shaped_tl]; exact hz.2, o ρ (.bl _) _ .refl m rfl⟩)
        · exact o.elim
      · exact o.elim
    have dic : Out S (RV S) W ρ (match dLook h mm a with
      | some r => .ok (.bl (ng ^^ r.isSome)) h
      | none => .bad) τ Q → rInA S.K ng x y H Q := fun o => by
      obtain ⟨p, e1, rfl⟩ := rb
      split at o
      · rename_i r q1
        rcases dLook_get m e1 ra q1 with ⟨rfl, g⟩ | ⟨a', x', rfl, g, _⟩
        · exact .inr (.inr ⟨p, none, rfl, g, o ρ (.bl _) _ .refl m rfl⟩)
        · exact .inr (.inr ⟨p, some x', rfl, g, o ρ (.bl _) _ .refl m rfl⟩)
      · exact o.elim
    split at o
    · exact seq o
    · exact seq o
    · exact dic o
    · exact dic o
    · exact o.elim
  · exact o.elim

/-! ### o[i] -/
def idxV (a b : Va) (h : Hh) : RE Va := match a, b with
  | .str z, .int i => if z.length ≤ BIG then match atI z.cps.toList i with
      | some c => .ok (.str ⟨#[c]⟩) h
      | none => .bad
    else .bad
  | .ref m, b => match h[m]? with
    | some (.lst xs) | some (.tup xs) => match b with
      | .int i => liftO (atI xs i) h
      | _ => .bad
    | some (.dK _) | some (.dT _) => match dLook h m b with
      | some (some v) => .ok v h
      | _ => .bad
    | _ => .bad
  | _, _ => .bad
theorem atI_rel {ρ : List Addr} {xs : List Va} {vs : List V} {i : Int} {a : Va} (r : RVs S ρ xs vs) (e : atI xs i = some a) : ∃ x, atI vs i = some x ∧ RV S ρ a x := by
  unfold atI at *
  rw [← Paired.length r]
  cases q : ixN xs.length i with
  | none => rw [q] at e; cases e
  | some j =>
    rw [q] at e
    have e : xs[j]? = some a := e
    exact Paired.get r e
def rIdx (K : PySem.W.Frag) : R2 := fun x y H Q => rIx K x y H Q ∨ ∃ a v, x = .ref a ∧ DGetA H a y (some v) ∧ Q v H
theorem ix_all {X : Cx} (hu : X.A.units + 1 < cLine) : IxR X (rIdx X.K) := by
  refine ix_seq.or ?_
  intro value slice pins s σ H x y v u Q I rx ry h hs
  obtain ⟨a, z, rfl, g, q⟩ := h
  cases rx
  rcases g with g | ⟨hn, _⟩
  · exact tail_any (dict_typeIs I g) PySem.F.slot_dict_getitem.lookup (d_getItem hu I g ry fun w' s3 I3 rw' => ⟨z, H, I3, rw', q⟩) hs
  · cases hn
theorem op2_idx : Op2 S idxV (rIdx S.K) := by
  intro ρ h H a b x y W τ Q m ra rb o
  unfold idxV at o
  split at o
  · cases ra; cases rb
    split at o
    · rename_i hz
      split at o
      · rename_i c q
        exact .inl (.inr (.inr ⟨_, _, c, rfl, rfl, by rw [← big_eq]; exact hz, q, o ρ (.str _) _ .refl m rfl⟩))
      · exact o.elim
    · exact o.elim
  · obtain ⟨p, e1, rfl⟩ := ra
    split at o
    · rename_i xs q
      split at o
      · cases rb
        unfold liftO at o
        split at o
        · rename_i v qv
          obtain ⟨vs, g, r⟩ := m.lst e1 q
          obtain ⟨x, g2, r2⟩ := atI_rel r qv
          exact .inl (.inl ⟨p, vs, _, x, rfl, rfl, .of g, g2, o ρ _ _ .refl m r2⟩)
        · exact o.elim
      · exact o.elim
    · rename_i xs q
      split at o
      · cases rb
        unfold liftO at o
        split at o
        · rename_i v qv
          obtain ⟨vs, g, r⟩ := m.tup e1 q
          obtain ⟨x, g2, r2⟩ := atI_rel r qv
          exact .inl (.inr (.inl ⟨p, vs, _, x, rfl, rfl, .of g, g2, o ρ _ _ .refl m r2⟩))
        · exact o.elim
      · exact o.elim
    · split at o
      · rename_i v q1
        rcases dLook_get m e1 rb q1 with ⟨z, g⟩ | ⟨a', x', z, g, r⟩
        · cases z
        · cases z
          exact .inr ⟨p, x', rfl, g, o ρ _ _ .refl m r⟩
      · exact o.elim
    · split at o
      · rename_i v q1
        rcases dLook_get m e1 rb q1 with ⟨z, g⟩ | ⟨a', x', z, g, r⟩
        · cases z
        · cases z
          exact .inr ⟨p, x', rfl, g, o ρ _ _ .refl m r⟩
      · exact o.elim
    · exact o.elim
  · exact o.elim

/-! ### o[i] = v -/
def putL {κ : Type} [DecidableEq κ] (kvs : List (κ × Va)) (k : κ) (v : Va) : List (κ × Va) :=
  if kvs.any (fun kv => decide (kv.1 = k)) then kvs.map (fun kv => if kv.1 = k then (kv.1, v) else kv) else kvs ++ [(k, v)]
/-- the heap behind d[k] = v -/
def dPut (h : Hh) (l : Nat) (k v : Va) : Option Hh := match h[l]? with
  | some (.dK kvs) => if kvs.length < BIG then match keyOf k with
    | some k => some (h.set l (.dK (putL kvs k v)))
    | none => match k with
      | .ref m => match h[m]? with
        | some (.tup xs) => match kvs, keysOf xs with
          | [], some ks => some (h.set l (.dT [(ks, v)]))
          | _, _ => none
        | _ => none
      | _ => none
    else none
  | some (.dT kvs) => if kvs.length < BIG then match k with
    | .ref m => match h[m]? with
      | some (.tup xs) => match keysOf xs with
        | some ks => some (h.set l (.dT (putL kvs ks v)))
        | none => none
      | _ => none
    | _ => none
    else none
  | _ => none
end HA

namespace HA
open PySem PySem.Spec PyProof.Rows L2
variable {S : Fx}

/-! ### stores -/
theorem putL_rel {κ : Type} [DecidableEq κ] {ρ : List Addr} {k : κ} {a : Va} {x : V} (r : RV S ρ a x) {kvs : List (κ × Va)} {ws : List (κ × V)} (p : Paired (fun p q => p.1 = q.1 ∧ RV S ρ p.2 q.2) kvs ws) :
    Paired (fun p q => p.1 = q.1 ∧ RV S ρ p.2 q.2) (putL kvs k a) (putK ws k x) := by
  have ha : ∀ {kvs : List (κ × Va)} {ws : List (κ × V)}, Paired (fun p q => p.1 = q.1 ∧ RV S ρ p.2 q.2) kvs ws → (kvs.any fun kv => decide (kv.1 = k)) = (ws.any fun kv => decide (kv.1 = k)) := by
    intro kvs ws p
    induction p with
    | nil => rfl
    | cons h t ih => rw [List.any_cons, List.any_cons, ih, h.1]
  have hm : ∀ {kvs : List (κ × Va)} {ws : List (κ × V)}, Paired (fun p q => p.1 = q.1 ∧ RV S ρ p.2 q.2) kvs ws → Paired (fun p q => p.1 = q.1 ∧ RV S ρ p.2 q.2) (kvs.map (fun kv => if kv.1 = k then (kv.1, a) else kv)) (ws.map (fun kv => if kv.1 = k then (kv.1, x) else kv)) := by
    intro kvs ws p
    induction p with
    | nil => exact .nil
    | cons h t ih =>
      refine .cons ?_ ih
      show (if _ then _ else _ : κ × Va).1 = (if _ then _ else _ : κ × V).1 ∧ RV S ρ (if _ then _ else _ : κ × Va).2 (if _ then _ else _ : κ × V).2
      rw [← h.1]
      split
      · exact ⟨rfl, r⟩
      · exact h
  unfold putL putK
  rw [ha p]
  split
  · exact hm p
  · exact Paired.app p (.cons ⟨rfl, r⟩ .nil)
def DPutA (H : Hp) (a : Addr) (y v : V) (H' : Hp) : Prop := DPut H a y v H' ∨ (∃ b k, H a = some (.dK []) ∧ y = .ref b ∧ H b = some (.tup (k.map kV)) ∧ H' = upd H a (.dT [(k, v)]))
def setV (o i v : Va) (h : Hh) : Option Hh := match o with
  | .ref m => match h[m]? with
    | some (.lst xs) => match i with
      | .int k => match ixN xs.length k with
        | some j => some (h.set m (.lst (xs.set j v)))
        | none => none
      | _ => none
    | some (.dK _) | some (.dT _) => dPut h m i v
    | _ => none
  | _ => none
def rSetA : V → V → V → Hp → (Hp → Prop) → Prop := fun o i v H Q => rSetL o i v H Q ∨ ∃ a H4, o = .ref a ∧ DPutA H a i v H4 ∧ Q H4
theorem set_all {X : Cx} (hu : X.A.units + 1 < cLine) : PSet X rSetA := by
  intro pins s σ H o i v ov iv u Q I ro ri rv h
  rcases h with h | ⟨a, H4, rfl, g, q⟩
  · exact set_list pins s σ H o i v ov iv u Q I ro ri rv h
  · cases ro
    rcases g with g | ⟨b, k, e, rfl, eb, rfl⟩
    · exact d_setItem hu I g ri rv fun s' I' => ⟨H4, I', q⟩
    · have hne : b ≠ a := by rintro rfl; rw [e] at eb; cases eb
      refine d_setItem hu (Inv.asT I e) (DPut.t (kvs := []) (k := k) (v := v) upd_same (by rw [upd_ne hne]; exact eb) (by rw [sizeLine_eq]; decide)) ri rv fun s' I' => ⟨_, I', ?_⟩
      rw [upd_upd]
      exact q
theorem RVs.set {ρ : List Addr} {a : Va} {x : V} (r : RV S ρ a x) : ∀ {xs : List Va} {vs : List V} (i : Nat), RVs S ρ xs vs → RVs S ρ (xs.set i a) (vs.set i x)
  | _, _, _, .nil => .nil
  | _, _, 0, .cons _ t => .cons r t
  | _, _, i + 1, .cons q t => .cons q (RVs.set r i t)
theorem dPut_ok {ρ : List Addr} {h h1 : Hh} {H : Hp} {l : Nat} {p : Addr} {i v : Va} {xi xv : V} {Q : Hp → Prop} (m : Mo S ρ h H) (e1 : ρ[l]? = some p) (ri : RV S ρ i xi) (rv : RV S ρ v xv) (e : dPut h l i v = some h1) (q : ∀ H', Mo S ρ h1 H' → Q H') : ∃ H4, DPutA H p xi xv H4 ∧ Q H4 := by
  unfold dPut at e
  split at e
  · rename_i kvs q1
    obtain ⟨ws, g, pr⟩ := m.dK e1 q1
    have hln := Paired.length pr
    split at e
    · rename_i hl
      split at e
      · rename_i k e2
        cases e
        refine ⟨_, .inl ?_, q _ (m.set (o' := .dK (putL kvs k v)) (ho' := .dK (putK ws k xv)) e1 q1 (fun _ z => by cases z) (fun _ z => by cases z) ⟨_, rfl, putL_rel rv pr⟩)⟩
        rw [keyOf_rel ri e2]
        exact DPut.k g (by rw [← hln, ← big_eq]; exact hl)
      · split at e
        · rename_i mm
          split at e
          · rename_i xs q3
            split at e
            · rename_i ks e4
              cases e
              obtain ⟨b, e5, rfl⟩ := ri
              obtain ⟨vs, g2, rvs⟩ := m.tup e5 q3
              rw [keysOf_rel rvs e4] at g2
              cases pr
              refine ⟨_, .inr ⟨b, ks, g, rfl, g2, rfl⟩, q _ (m.set (o' := .dT [(ks, v)]) (ho' := .dT [(ks, xv)]) e1 q1 (fun _ z => by cases z) (fun _ z => by cases z) ⟨_, rfl, .cons ⟨rfl, rv⟩ .nil⟩)⟩
            · cases e
          · cases e
        · cases e
    · cases e
  · rename_i kvs q1
    obtain ⟨ws, g, pr⟩ := m.dT e1 q1
    have hln := Paired.length pr
    split at e
    · rename_i hl
      split at e
      · rename_i mm
        split at e
        · rename_i xs q3
          split at e
          · rename_i ks e4
            cases e
            obtain ⟨b, e5, rfl⟩ := ri
            obtain ⟨vs, g2, rvs⟩ := m.tup e5 q3
            rw [keysOf_rel rvs e4] at g2
            exact ⟨_, .inl (DPut.t g g2 (by rw [← hln, ← big_eq]; exact hl)), q _ (m.set (o' := .dT (putL kvs ks v)) (ho' := .dT (putK ws ks xv)) e1 q1 (fun _ z => by cases z) (fun _ z => by cases z) ⟨_, rfl, putL_rel rv pr⟩)⟩
          · cases e
        · cases e
      · cases e
    · cases e
  · cases e
theorem setV_ok {ρ : List Addr} {h h1 : Hh} {H : Hp} {o i v : Va} {xo xi xv : V} {Q : Hp → Prop} (m : Mo S ρ h H) (ro : RV S ρ o xo) (ri : RV S ρ i xi) (rv : RV S ρ v xv) (e : setV o i v h = some h1) (q : ∀ H', Mo S ρ h1 H' → Q H') : rSetA xo xi xv H Q := by
  unfold setV at e
  split at e
  · rename_i mm
    obtain ⟨p, e1, rfl⟩ := ro
    split at e
    · rename_i xs q1
      split at e
      · split at e
        · rename_i j qj
          cases e
          cases ri
          obtain ⟨vs, g, r⟩ := m.lst e1 q1
          refine .inl ⟨p, vs, _, j, rfl, rfl, g, by rw [← Paired.length r]; exact qj, ?_⟩
          exact q _ (m.set (o' := .lst (xs.set j v)) (ho' := .lst (vs.set j xv)) e1 q1 (fun _ z => by cases z) (fun _ z => by cases z) ⟨_, rfl, RVs.set rv j r⟩)
        · cases e
      · cases e
    · obtain ⟨H4, a, b⟩ := dPut_ok m e1 ri rv e q
      exact .inr ⟨p, H4, rfl, a, b⟩
    · obtain ⟨H4, a, b⟩ := dPut_ok m e1 ri rv e q
      exact .inr ⟨p, H4, rfl, a, b⟩
    · cases e
  · cases e

/-! ### truth -/
def truV (a : Va) (h : Hh) : Option Bool := match a with
  | .non => some false
  | .bl b => some b
  | .int i => some (i != 0)
  | .str y => if y.length ≤ BIG then some ((y.length : Int) != 0) else none
  | .ref m => match h[m]? with
    | some (.lst xs) => some (!xs.isEmpty)
    | some (.tup xs) => some (!xs.isEmpty)
    | some (.dK kvs) => some (!kvs.isEmpty)
    | _ => none
  | .scr => none
theorem empty_rel {α β : Type} {F : α → β → Prop} {xs : List α} {ys : List β} (r : Paired F xs ys) : (!xs.isEmpty) = !ys.isEmpty := by cases r <;> rfl
theorem truV_ok {ρ : List Addr} {h : Hh} {H : Hp} {a : Va} {x : V} {k : Bool} (m : Mo S ρ h H) (ra : RV S ρ a x) (e : truV a h = some k) : TruV S.K x H k := by
  unfold truV at e
  split at e
  · cases e; cases ra; exact rfl
  · cases e; cases ra; exact rfl
  · cases e; cases ra; exact rfl
  · split at e
    · rename_i hz
      cases e; cases ra
      exact ⟨by rw [← big_eq]; exact hz, rfl⟩
    · cases e
  · obtain ⟨p, e1, rfl⟩ := ra
    split at e
    · rename_i xs q
      cases e
      obtain ⟨vs, g, r⟩ := m.lst e1 q
      exact .inl ⟨vs, .of g, empty_rel r⟩
    · rename_i xs q
      cases e
      obtain ⟨vs, g, r⟩ := m.tup e1 q
      exact .inr (.inl ⟨vs, .of g, empty_rel r⟩)
    · rename_i xs q
      cases e
      obtain ⟨vs, g, r⟩ := m.dK e1 q
      exact .inr (.inr ⟨vs, g, empty_rel r⟩)
    · cases e
  · cases e

/-! ### slices -/
def cutL {α : Type} (xs : List α) (lo hi : Option Int) : List α := (xs.drop (HT.sIx xs.length 0 lo)).take (HT.sIx xs.length xs.length hi - HT.sIx xs.length 0 lo)
theorem Paired.drop {α β : Type} {F : α → β → Prop} : ∀ {xs : List α} {ys : List β} (n : Nat), Paired F xs ys → Paired F (xs.drop n) (ys.drop n)
  | _, _, 0, r => r
  | _, _, _ + 1, .nil => .nil
  | _, _, n + 1, .cons _ t => Paired.drop n t
theorem Paired.take {α β : Type} {F : α → β → Prop} : ∀ {xs : List α} {ys : List β} (n : Nat), Paired F xs ys → Paired F (xs.take n) (ys.take n)
  | _, _, 0, _ => .nil
  | _, _, _ + 1, .nil => .nil
  | _, _, n + 1, .cons r t => .cons r (Paired.take n t)
theorem cutL_rel {ρ : List Addr} {xs : List Va} {vs : List V} (r : RVs S ρ xs vs) (lo hi : Option Int) : RVs S ρ (cutL xs lo hi) (cutV vs lo hi) := by
  unfold cutL cutV
  rw [← Paired.length r]
  exact Paired.take _ (Paired.drop _ r)
theorem cutL_whole {α : Type} {xs : List α} {lo hi : Option Int} (h : HT.sIx xs.length 0 lo = 0 ∧ HT.sIx xs.length xs.length hi = xs.length) : cutL xs lo hi = xs := by
  unfold cutL
  rw [h.1, h.2]
  simp
def slcV (a : Va) (lo hi : Option Int) (h : Hh) : RE Va := match a with
  | .ref m => match h[m]? with
    | some (.lst xs) => alloc (.lst (cutL xs lo hi)) h
    | some (.tup xs) => alloc (.tup (cutL xs lo hi)) h
    | _ => .bad
  | _ => .bad
def rSl (K : PySem.W.Frag) : V → Option Int → Option Int → Hp → VK → Prop := fun x lo hi H Q => rSlL K x lo hi H Q ∨ rSlA K x lo hi H Q
theorem sl_all {X : Cx} : SlR X (rSl X.K) := sl_list.or sl_tupA
theorem slcV_ok {ρ : List Addr} {h : Hh} {H : Hp} {a : Va} {x : V} {lo hi : Option Int} {W : WX} {τ : L2.St} {Q : VK} (m : Mo S ρ h H) (ra : RV S ρ a x) (o : Out S (RV S) W ρ (slcV a lo hi h) τ Q) : rSl S.K x lo hi H Q := by
  unfold slcV at o
  split at o
  · obtain ⟨p, e1, rfl⟩ := ra
    split at o
    · rename_i xs q
      obtain ⟨vs, g, r⟩ := m.lst e1 q
      exact .inl ⟨p, vs, rfl, .of g, out_alloc (o := .lst (cutL xs lo hi)) m ⟨_, rfl, cutL_rel r lo hi⟩ o⟩
    · rename_i xs q
      obtain ⟨vs, g, r⟩ := m.tup e1 q
      refine .inr ⟨p, vs, rfl, .of g, fun w => ?_, fun _ => out_alloc (o := .tup (cutL xs lo hi)) m ⟨_, rfl, cutL_rel r lo hi⟩ o⟩
      rw [cutL_whole (by rw [Paired.length r]; exact w)] at o
      exact out_alias (xs := xs) m g r o
    · exact o.elim
  · exact o.elim
/-- xs[::-1] -/
def revV (a : Va) (h : Hh) : RE Va := match a with
  | .ref m => match h[m]? with
    | some (.lst xs) => alloc (.lst xs.reverse) h
    | _ => .bad
  | _ => .bad
theorem Paired.rev {α β : Type} {F : α → β → Prop} {xs : List α} {ys : List β} (r : Paired F xs ys) : Paired F xs.reverse ys.reverse := by
  induction r with
  | nil => exact .nil
  | cons r t ih => rw [List.reverse_cons, List.reverse_cons]; exact Paired.app ih (.cons r .nil)

/-! ### len, int, abs, list, tuple .. of values -/
def CallS (S : Fx) (g : List Va → Hh → RE Va) (r : List V → Hp → VK → Prop) : Prop :=
  ∀ (ρ : List Addr) (h : Hh) (H : Hp) (as : List Va) (xs : List V) (W : WX) (τ : L2.St) (Q : VK), Mo S ρ h H → RVs S ρ as xs → Out S (RV S) W ρ (g as h) τ Q → r xs H Q
theorem one_rel {ρ : List Addr} {a : Va} {xs : List V} (r : RVs S ρ [a] xs) : ∃ x, xs = [x] ∧ RV S ρ a x := by
  cases r with
  | cons r t => cases t; exact ⟨_, rfl, r⟩
theorem two_rel {ρ : List Addr} {a b : Va} {xs : List V} (r : RVs S ρ [a, b] xs) : ∃ x y, xs = [x, y] ∧ RV S ρ a x ∧ RV S ρ b y := by
  cases r with
  | cons r t =>
    obtain ⟨y, rfl, r2⟩ := one_rel t
    exact ⟨_, _, rfl, r, r2⟩
def lenV (as : List Va) (h : Hh) : RE Va := match as with
  | [.str y] => if y.length ≤ BIG then .ok (.int y.length) h else .bad
  | [.ref m] => match h[m]? with
    | some (.lst xs) => .ok (.int xs.length) h
    | some (.tup xs) => .ok (.int xs.length) h
    | some (.dK kvs) => .ok (.int kvs.length) h
    | some (.dT kvs) => .ok (.int kvs.length) h
    | _ => .bad
  | _ => .bad
def rLen (K : PySem.W.Frag) : List V → Hp → VK → Prop := fun xs H Q => (∃ x n, xs = [x] ∧ LenV K x H n ∧ Q (.int n) H) ∨ (∃ a kvs, xs = [V.ref a] ∧ H a = some (.dK kvs) ∧ Q (.int kvs.length) H) ∨ rLenT xs H Q
theorem cr_len {X : Cx} : CallR X (.builtin "len") (rLen X.K) := call_len.or (call_lenD.or call_len_dT)
theorem cs_len : CallS S lenV (rLen S.K) := by
  intro ρ h H as xs W τ Q m rs o
  unfold lenV at o
  split at o
  · obtain ⟨x, rfl, ra⟩ := one_rel rs
    cases ra
    split at o
    · rename_i hz
      exact .inl ⟨_, _, rfl, ⟨by rw [← big_eq]; exact hz, rfl⟩, o ρ _ _ .refl m rfl⟩
    · exact o.elim
  · obtain ⟨x, rfl, p, e1, rfl⟩ := one_rel rs
    split at o
    · rename_i ys q
      obtain ⟨vs, g, r⟩ := m.lst e1 q
      refine .inl ⟨_, vs.length, rfl, .inl ⟨vs, .of g, rfl⟩, ?_⟩
      rw [← Paired.length r]; exact o ρ _ _ .refl m rfl
    · rename_i ys q
      obtain ⟨vs, g, r⟩ := m.tup e1 q
      refine .inl ⟨_, vs.length, rfl, .inr ⟨vs, .of g, rfl⟩, ?_⟩
      rw [← Paired.length r]; exact o ρ _ _ .refl m rfl
    · rename_i ys q
      obtain ⟨vs, g, r⟩ := m.dK e1 q
      refine .inr (.inl ⟨_, vs, rfl, g, ?_⟩)
      rw [← Paired.length r]; exact o ρ _ _ .refl m rfl
    · rename_i ys q
      obtain ⟨vs, g, r⟩ := m.dT e1 q
      refine .inr (.inr ⟨_, vs, rfl, g, ?_⟩)
      rw [← Paired.length r]; exact o ρ _ _ .refl m rfl
    · exact o.elim
  · exact o.elim
def absV (as : List Va) (h : Hh) : RE Va := match as with
  | [.int i] => .ok (.int (if i < 0 then -i else i)) h
  | _ => .bad
theorem cs_abs : CallS S absV (fun xs H Q => ∃ i, xs = [.int i] ∧ Q (.int (if i < 0 then -i else i)) H) := by
  intro ρ h H as xs W τ Q m rs o
  unfold absV at o
  split at o
  · obtain ⟨x, rfl, ra⟩ := one_rel rs
    cases ra
    exact ⟨_, rfl, o ρ _ _ .refl m rfl⟩
  · exact o.elim
def intV (as : List Va) (h : Hh) : RE Va := match as with
  | [.int i] => .ok (.int i) h
  | [.bl k] => .ok (.int (if k then 1 else 0)) h
  | _ => .bad
theorem cs_int : CallS S intV (fun xs H Q => (∃ i, xs = [.int i] ∧ Q (.int i) H) ∨ ∃ k, xs = [.bl k] ∧ Q (.int (if k then 1 else 0)) H) := by
  intro ρ h H as xs W τ Q m rs o
  unfold intV at o
  split at o
  · obtain ⟨x, rfl, ra⟩ := one_rel rs
    cases ra
    exact .inl ⟨_, rfl, o ρ _ _ .refl m rfl⟩
  · obtain ⟨x, rfl, ra⟩ := one_rel rs
    cases ra
    exact .inr ⟨_, rfl, o ρ _ _ .refl m rfl⟩
  · exact o.elim
/-- tuple(x) of a list, a tuple -/
def tupleV (as : List Va) (h : Hh) : RE Va := match as with
  | [.ref m] => match h[m]? with
    | some (.lst xs) => alloc (.tup xs) h
    | some (.tup xs) => alloc (.tup xs) h
    | _ => .bad
  | _ => .bad
theorem cs_tuple : CallS S tupleV (fun xs H Q => ∃ p ys, xs = [.ref p] ∧ ((SqL S.K H p ys ∧ ∀ l, H l = none → Q (.ref l) (upd H l (.tup ys))) ∨ (SqT S.K H p ys ∧ Q (.ref p) H))) := by
  intro ρ h H as xs W τ Q m rs o
  unfold tupleV at o
  split at o
  · obtain ⟨x, rfl, p, e1, rfl⟩ := one_rel rs
    split at o
    · rename_i ys q
      obtain ⟨vs, g, r⟩ := m.lst e1 q
      exact ⟨p, vs, rfl, .inl ⟨.of g, out_alloc (o := .tup ys) m ⟨_, rfl, r⟩ o⟩⟩
    · rename_i ys q
      obtain ⟨vs, g, r⟩ := m.tup e1 q
      exact ⟨p, vs, rfl, .inr ⟨.of g, out_alias (xs := ys) m g r o⟩⟩
    · exact o.elim
  · exact o.elim
def kvA : Key → Va
  | .inl i => .int i
  | .inr x => .str x
/-- list(x) of a list, a tuple, the script, a dict (its keys) -/
def listV (ns : List Int) (as : List Va) (h : Hh) : RE Va := match as with
  | [.scr] => alloc (.lst (ns.map .int)) h
  | [.ref m] => match h[m]? with
    | some (.lst xs) => alloc (.lst xs) h
    | some (.tup xs) => alloc (.lst xs) h
    | some (.dK kvs) => alloc (.lst (kvs.map fun kv => kvA kv.1)) h
    | _ => .bad
  | _ => .bad
def rList (K : PySem.W.Frag) : List V → Hp → VK → Prop := fun xs H Q => (∃ p ys, xs = [.ref p] ∧ (SqL K H p ys ∨ SqT K H p ys) ∧ ∀ l, H l = none → Q (.ref l) (upd H l (.lst ys))) ∨ rListD xs H Q
theorem cr_list {X : Cx} (hc : X.calm = true) : CallR X (.type "list") (rList X.K) := call_list_of.or (call_list_dK hc)
theorem ints_rel {ρ : List Addr} : ∀ ns : List Int, RVs S ρ (ns.map .int) (ns.map V.int)
  | [] => .nil
  | n :: ns => .cons rfl (ints_rel ns)
theorem keys_rel {ρ : List Addr} {kvs : List (Key × Va)} {ws : List (Key × V)} (p : Paired (fun p q => p.1 = q.1 ∧ RV S ρ p.2 q.2) kvs ws) : RVs S ρ (kvs.map fun kv => kvA kv.1) (ws.map fun kv => kV kv.1) := by
  induction p with
  | nil => exact .nil
  | @cons p q _ _ h t ih =>
    refine .cons ?_ ih
    show RV S ρ (kvA p.1) (kV q.1)
    rw [← h.1]
    cases p.1 <;> exact rfl
theorem cs_list : CallS S (listV S.ns) (rList S.K) := by
  intro ρ h H as xs W τ Q m rs o
  unfold listV at o
  split at o
  · obtain ⟨x, rfl, ra⟩ := one_rel rs
    cases ra
    exact .inl ⟨S.sa, _, rfl, .inl m.scr.seq, out_alloc (o := .lst (S.ns.map .int)) m ⟨_, rfl, ints_rel _⟩ o⟩
  · obtain ⟨x, rfl, p, e1, rfl⟩ := one_rel rs
    split at o
    · rename_i ys q
      obtain ⟨vs, g, r⟩ := m.lst e1 q
      exact .inl ⟨p, vs, rfl, .inl (.of g), out_alloc (o := .lst ys) m ⟨_, rfl, r⟩ o⟩
    · rename_i ys q
      obtain ⟨vs, g, r⟩ := m.tup e1 q
      exact .inl ⟨p, vs, rfl, .inr (.of g), out_alloc (o := .lst ys) m ⟨_, rfl, r⟩ o⟩
    · rename_i kvs q
      obtain ⟨vs, g, r⟩ := m.dK e1 q
      exact .inr ⟨p, vs, rfl, g, out_alloc (o := .lst _) m ⟨_, rfl, keys_rel r⟩ o⟩
    · exact o.elim
  · exact o.elim
/-! ### sum, any, all, min, max -/
def intsOf : List Va → Option (List Int)
  | [] => some []
  | .int i :: r => match intsOf r with
    | some l => some (i :: l)
    | none => none
  | _ :: _ => none
theorem intsOf_rel {ρ : List Addr} : ∀ {xs : List Va} {vs : List V} {ns : List Int}, RVs S ρ xs vs → intsOf xs = some ns → vs = ns.map V.int
  | [], _, _, r, e => by cases r; cases e; rfl
  | .int i :: xs, _, ns, r, e => by
    cases r with
    | cons r1 r2 =>
      unfold intsOf at e
      split at e
      · rename_i l e1
        cases e
        cases r1
        rw [intsOf_rel r2 e1]
        rfl
      · cases e
  | .non :: _, _, _, _, e => by cases e
  | .bl _ :: _, _, _, _, e => by cases e
  | .str _ :: _, _, _, _, e => by cases e
  | .ref _ :: _, _, _, _, e => by cases e
  | .scr :: _, _, _, _, e => by cases e
def blsOf : List Va → Option (List Bool)
  | [] => some []
  | .bl i :: r => match blsOf r with
    | some l => some (i :: l)
    | none => none
  | _ :: _ => none
theorem blsOf_rel {ρ : List Addr} : ∀ {xs : List Va} {vs : List V} {ns : List Bool}, RVs S ρ xs vs → blsOf xs = some ns → vs = ns.map V.bl
  | [], _, _, r, e => by cases r; cases e; rfl
  | .bl i :: xs, _, ns, r, e => by
    cases r with
    | cons r1 r2 =>
      unfold blsOf at e
      split at e
      · rename_i l e1
        cases e
        cases r1
        rw [blsOf_rel r2 e1]
        rfl
      · cases e
  | .non :: _, _, _, _, e => by cases e
  | .int _ :: _, _, _, _, e => by cases e
  | .str _ :: _, _, _, _, e => by cases e
  | .ref _ :: _, _, _, _, e => by cases e
  | .scr :: _, _, _, _, e => by cases e
end HA

namespace HA
open PySem PySem.Spec PyProof.Rows L2
variable {S : Fx}

/-! ### sum, any, all -/
def sumV (as : List Va) (h : Hh) : RE Va := match as with
  | [.ref m] => match h[m]? with
    | some (.lst xs) => match intsOf xs with
      | some ns => .ok (.int ns.sum) h
      | none => .bad
    | _ => .bad
  | _ => .bad
theorem cs_sum : CallS S sumV (rSum S.K) := by
  intro ρ h H as xs W τ Q m rs o
  unfold sumV at o
  split at o
  · obtain ⟨x, rfl, p, e1, rfl⟩ := one_rel rs
    split at o
    · rename_i ys q
      split at o
      · rename_i ns qn
        obtain ⟨vs, g, r⟩ := m.lst e1 q
        rw [intsOf_rel r qn] at g
        exact ⟨p, ns, rfl, .of g, o ρ _ _ .refl m rfl⟩
      · exact o.elim
    · exact o.elim
  · exact o.elim
def anyV (as : List Va) (h : Hh) : RE Va := match as with
  | [.ref m] => match h[m]? with
    | some (.lst xs) => match blsOf xs with
      | some ns => .ok (.bl (ns.any id)) h
      | none => .bad
    | _ => .bad
  | _ => .bad
theorem cs_any : CallS S anyV (rAny S.K) := by
  intro ρ h H as xs W τ Q m rs o
  unfold anyV at o
  split at o
  · obtain ⟨x, rfl, p, e1, rfl⟩ := one_rel rs
    split at o
    · rename_i ys q
      split at o
      · rename_i ns qn
        obtain ⟨vs, g, r⟩ := m.lst e1 q
        rw [blsOf_rel r qn] at g
        exact ⟨p, ns, rfl, .of g, o ρ (.bl _) _ .refl m rfl⟩
      · exact o.elim
    · exact o.elim
  · exact o.elim
def allV (as : List Va) (h : Hh) : RE Va := match as with
  | [.ref m] => match h[m]? with
    | some (.lst xs) => match blsOf xs with
      | some ns => .ok (.bl (ns.all id)) h
      | none => .bad
    | _ => .bad
  | _ => .bad
theorem cs_all : CallS S allV (rAll S.K) := by
  intro ρ h H as xs W τ Q m rs o
  unfold allV at o
  split at o
  · obtain ⟨x, rfl, p, e1, rfl⟩ := one_rel rs
    split at o
    · rename_i ys q
      split at o
      · rename_i ns qn
        obtain ⟨vs, g, r⟩ := m.lst e1 q
        rw [blsOf_rel r qn] at g
        exact ⟨p, ns, rfl, .of g, o ρ (.bl _) _ .refl m rfl⟩
      · exact o.elim
    · exact o.elim
  · exact o.elim

/-! ### min, max: two ints; the items of a list -/
def atomV : PyData → Option Va
  | .none => some .non
  | .bool b => some (.bl b)
  | .int i => some (.int i)
  | .str x => some (.str x)
  | _ => none
def atomsV : List PyData → Option (List Va)
  | [] => some []
  | d :: ds => match atomV d with
    | some v => match atomsV ds with
      | some vs => some (v :: vs)
      | none => none
    | none => none
/-- a value that reads as d: an atom, or a tuple of atoms -/
def resD (d : PyData) (h : Hh) : RE Va := match d with
  | .tuple ds => match atomsV ds with
    | some vs => alloc (.tup vs) h
    | none => .bad
  | d => match atomV d with
    | some v => .ok v h
    | none => .bad
theorem dat_atom {n : Nat} {h : Hh} {x v : Va} {d : PyData} (e : dat n h x = some d) (a : atomV d = some v) : x = v := by
  have ref0 : ∀ l, dat n h (.ref l) = some d → False := fun l e => by
    cases n with
    | zero => cases e
    | succ n =>
      unfold dat at e
      split at e
      · split at e
        · cases e; cases a
        · cases e
      · split at e
        · cases e; cases a
        · cases e
      · cases e
  cases x with
  | ref l => exact (ref0 l e).elim
  | non => cases n <;> (cases e; cases a; rfl)
  | bl b => cases n <;> (cases e; cases a; rfl)
  | int b => cases n <;> (cases e; cases a; rfl)
  | str b => cases n <;> (cases e; cases a; rfl)
  | scr => cases n <;> cases e
theorem dats_atoms {n : Nat} {h : Hh} : ∀ {xs vs : List Va} {ds : List PyData}, datL (dat n h) xs = some ds → atomsV ds = some vs → xs = vs
  | [], _, _, e, a => by cases e; cases a; rfl
  | x :: xs, vs, ds, e, a => by
    unfold datL at e
    split at e
    · rename_i d e1
      split at e
      · rename_i ds' e2
        cases e
        unfold atomsV at a
        split at a
        · rename_i v a1
          split at a
          · rename_i vs' a2
            cases a
            rw [dat_atom e1 a1, dats_atoms e2 a2]
          · cases a
        · cases a
      · cases e
    · cases e
theorem resD_ok {ρ : List Addr} {h : Hh} {H : Hp} {W : WX} {τ : L2.St} {Q : VK} {n : Nat} {a : Va} {y : V} {d : PyData} (m : Mo S ρ h H) (r : RV S ρ a y) (e : dat n h a = some d) (o : Out S (RV S) W ρ (resD d h) τ Q) : Q y H := by
  unfold resD at o
  split at o
  · rename_i ds
    split at o
    · rename_i vs q
      cases a with
      | ref l =>
        obtain ⟨p, e1, rfl⟩ := r
        cases n with
        | zero => cases e
        | succ n =>
          unfold dat at e
          split at e
          · split at e <;> cases e
          · rename_i xs q1
            split at e
            · rename_i ds' q2
              cases e
              obtain ⟨ws, g, rv⟩ := m.tup e1 q1
              rw [dats_atoms q2 q] at rv
              exact out_alias m g rv o
            · cases e
          · cases e
      | non => cases n <;> cases e
      | bl b => cases n <;> cases e
      | int b => cases n <;> cases e
      | str b => cases n <;> cases e
      | scr => cases n <;> cases e
    · exact o.elim
  · split at o
    · rename_i v q
      rw [dat_atom e q] at r
      exact o ρ y H .refl m r
    · exact o.elim
abbrev mmD (mx : Bool) (d : PyData) (ds : List PyData) : PyData := if mx = true then PySem.W.maxD d ds else PySem.W.minD d ds
def rMm (K : PySem.W.Frag) (mx : Bool) : List V → Hp → VK → Prop := fun vs H Q => ∃ (a : Addr) (xs : List V) (d : PyData) (ds : List PyData), vs = [V.ref a] ∧ (SqL K H a xs ∨ SqT K H a xs) ∧ DpAll K H xs (d :: ds) ∧ PySem.W.AlikeAll (d :: ds) ∧
  PyData.canLayAll0 (d :: ds) = true ∧ PyData.depthAll (d :: ds) ≤ 64 ∧ ∀ (i : Nat) (y : V), xs[i]? = some y → (d :: ds)[i]? = some (mmD mx d ds) → Q y H
theorem reads_det {h : Heap} {v : Value} {d e : PyData} {as bs : List Addr} (hd : d.canLay0 = true) (r : Reads h v d as) (r' : Reads h v e bs) : d = e := (SeqAt.Reads.unique d _ _ _ _ hd r r')
theorem canLay_get : ∀ {ds : List PyData} {i : Nat} {d : PyData}, PyData.canLayAll0 ds = true → ds[i]? = some d → d.canLay0 = true
  | [], _, _, _, e => by simp at e
  | x :: xs, 0, d, h, e => by
    rw [PyData.canLayAll0, Bool.and_eq_true] at h
    simp at e; subst e; exact h.1
  | x :: xs, i + 1, d, h, e => by
    rw [PyData.canLayAll0, Bool.and_eq_true] at h
    exact canLay_get (ds := xs) (i := i) h.2 (by simpa using e)
theorem readsAll_get {h : Heap} : ∀ {vs : List Value} {ds : List PyData} {as : List Addr} {i : Nat} {v : Value}, ReadsAll h vs ds as → vs[i]? = some v → ∃ d bs, ds[i]? = some d ∧ Reads h v d bs
  | _, _, _, _, _, .nil, e => by simp at e
  | _, _, _, 0, v, .cons r _, e => by simp at e; subst e; exact ⟨_, _, rfl, r⟩
  | _, _, _, i + 1, v, .cons _ rs, e => by
    obtain ⟨d, bs, h1, h2⟩ := readsAll_get (i := i) (v := v) rs (by simpa using e)
    exact ⟨d, bs, by simpa using h1, h2⟩
theorem vals_get' {xs : List V} {us : List Value} {i : Nat} {u : Value} (r : Vals xs us) (e : us[i]? = some u) : ∃ x, xs[i]? = some x ∧ RelV x u := by
  have h : i < xs.length := by
    rw [r.length]; exact (List.getElem?_eq_some_iff.mp e).1
  obtain ⟨w, h1, h2⟩ := r.get (i := i) (x := xs[i]) (List.getElem?_eq_getElem h)
  rw [e] at h1; cases h1
  exact ⟨_, List.getElem?_eq_getElem h, h2⟩
theorem cr_mm {X : Cx} (hc : X.calm = true) (hu : X.A.units + 70 < cLine) (mx : Bool) : CallR X (.builtin (if mx = true then "max" else "min")) (rMm X.K mx) := by
  intro pins s σ H xs us Q I r h
  obtain ⟨a, xs, d, ds, rfl, hs, hd, al, cl, hdp, q⟩ := h
  rw [Vals.ref1 r]
  have fin : ∀ {its : List Value}, Vals xs its → (∃ as, ReadsAll s.heap its (d :: ds) as) → ∀ (i : Nat) v h' tk bs, its.toArray[i]? = some v → Reads h' v (mmD mx d ds) bs → (∀ b o, s.heap.get? b = some o → h'.get? b = some o) → EP X pins σ Q v { s with heap := h', toks := tk } := by
    intro its rv ⟨as, hr⟩ i v h' tk bs e1 r1 k
    have e1 : its[i]? = some v := by simpa using e1
    obtain ⟨y, e2, ry⟩ := vals_get' rv e1
    obtain ⟨z, cs, e3, r3⟩ := readsAll_get hr e1
    have := reads_det (canLay_get cl e3) (PySem.W.reads_keeps k r3) r1
    subst this
    exact ⟨y, H, I.kept (t' := tk) k, ry, q i y e2 e3⟩
  rcases hs with hs | hs
  · obtain ⟨its, rv, pl, hz⟩ := I.list hs
    obtain ⟨as, hr⟩ := Dp.readsAll I (d :: ds) xs its hd rv
    cases mx with
    | false => exact PySem.W.min_list_data (I.ok.hd hc) pl.isList (by simpa using hr) al (by omega) (fin rv ⟨as, hr⟩)
    | true => exact PySem.W.max_list_data (I.ok.hd hc) pl.isList (by simpa using hr) al (by omega) (fin rv ⟨as, hr⟩)
  · obtain ⟨its, rv, pl, hz⟩ := I.tuple hs
    obtain ⟨as, hr⟩ := Dp.readsAll I (d :: ds) xs its hd rv
    cases mx with
    | false => exact PySem.W.min_tuple_data (I.ok.hd hc) pl (by simpa using hr) al (by omega) (fin rv ⟨as, hr⟩)
    | true => exact PySem.W.max_tuple_data (I.ok.hd hc) pl (by simpa using hr) al (by omega) (fin rv ⟨as, hr⟩)
def alikeB (ds : List PyData) : Bool := ds.all fun x => ds.all fun y => PySem.W.alike x y
theorem alikeB_ok {ds : List PyData} (h : alikeB ds = true) : ∀ x ∈ ds, ∀ y ∈ ds, PySem.W.alike x y = true := fun x hx y hy => by
  unfold alikeB at h
  rw [List.all_eq_true] at h
  have := h x hx
  rw [List.all_eq_true] at this
  exact this y hy
def noNone (ds : List PyData) : Bool := ds.all fun d => !dNone d
theorem noNone_ok {ds : List PyData} (h : noNone ds = true) : ∀ x ∈ ds, x ≠ .none := fun x hx => by
  unfold noNone at h
  rw [List.all_eq_true] at h
  have := h x hx
  exact dNone_ne (by simpa using this)
def mmV (mx : Bool) (as : List Va) (h : Hh) : RE Va := match as with
  | [.int i, .int j] => .ok (.int (if mx = true then (if j > i then j else i) else (if j < i then j else i))) h
  | [.ref m] => match h[m]? with
    | some (.lst xs) | some (.tup xs) => match datL (dat DD h) xs with
      | some (d :: ds) => if SeqAt.shaped (.list (d :: ds)) = true ∧ alikeB (d :: ds) = true ∧ noNone (d :: ds) = true then resD (mmD mx d ds) h else .bad
      | _ => .bad
    | _ => .bad
  | _ => .bad
def rMm2 (mx : Bool) : List V → Hp → VK → Prop := fun xs H Q => ∃ i j, xs = [.int i, .int j] ∧ Q (.int (if mx = true then (if j > i then j else i) else (if j < i then j else i))) H
theorem cr_mm2 {X : Cx} (hc : X.calm = true) (mx : Bool) : CallR X (.builtin (if mx = true then "max" else "min")) (rMm2 mx) := by
  cases mx
  · exact call_min2 hc
  · exact call_max2 hc
theorem datL_get {f : Va → Option PyData} : ∀ {xs : List Va} {ds : List PyData} {i : Nat} {d : PyData}, datL f xs = some ds → ds[i]? = some d → ∃ x, xs[i]? = some x ∧ f x = some d
  | [], _, _, _, e, q => by cases e; simp at q
  | x :: xs, ds, i, d, e, q => by
    unfold datL at e
    split at e
    · rename_i d' e1
      split at e
      · rename_i ds' e2
        cases e
        cases i with
        | zero => simp at q; subst q; exact ⟨x, rfl, e1⟩
        | succ i =>
          obtain ⟨y, h1, h2⟩ := datL_get (i := i) (d := d) e2 (by simpa using q)
          exact ⟨y, by simpa using h1, h2⟩
      · cases e
    · cases e
theorem cs_mm (mx : Bool) : CallS S (mmV mx) (fun xs H Q => rMm2 mx xs H Q ∨ rMm S.K mx xs H Q) := by
  intro ρ h H as xs W τ Q m rs o
  unfold mmV at o
  split at o
  · obtain ⟨x, y, rfl, ra, rb⟩ := two_rel rs
    cases ra; cases rb
    exact .inl ⟨_, _, rfl, o ρ _ _ .refl m rfl⟩
  · obtain ⟨x, rfl, p, e1, rfl⟩ := one_rel rs
    have fin : ∀ {ys : List Va} {vs : List V}, RVs S ρ ys vs → (SqL S.K H p vs ∨ SqT S.K H p vs) → Out S (RV S) W ρ (match datL (dat DD h) ys with
      | some (d :: ds) => if SeqAt.shaped (.list (d :: ds)) = true ∧ alikeB (d :: ds) = true ∧ noNone (d :: ds) = true then resD (mmD mx d ds) h else .bad
      | _ => .bad) τ Q → rMm2 mx [V.ref p] H Q ∨ rMm S.K mx [V.ref p] H Q := by
      intro ys vs r sq o
      split at o
      · rename_i d ds q
        split at o
        · rename_i hz
          refine .inr ⟨p, vs, d, ds, rfl, sq, dp_all (fun a x d r e => dp_of m DD a x d r e) r q, ⟨alikeB_ok hz.2.1, noNone_ok hz.2.2⟩, SeqAt.canLay_of_shaped hz.1, ?_, fun i y e2 e3 => ?_⟩
          · have := SeqAt.depth_of_shaped hz.1
            rw [PyData.depth] at this
            omega
          · obtain ⟨a, e4, e5⟩ := datL_get q e3
            obtain ⟨y', e6, ry⟩ := Paired.get r e4
            rw [e2] at e6; cases e6
            exact resD_ok m ry e5 o
        · exact o.elim
      · exact o.elim
    split at o
    · rename_i ys q
      obtain ⟨vs, g, r⟩ := m.lst e1 q
      exact fin r (.inl (.of g)) o
    · rename_i ys q
      obtain ⟨vs, g, r⟩ := m.tup e1 q
      exact fin r (.inr (.of g)) o
    · exact o.elim
  · exact o.elim
end HA

namespace HA
open PySem PySem.Spec PyProof.Rows L2
variable {S : Fx}

/-! ### sorted -/
abbrev leD {α : Type} : α × PyData → α × PyData → Bool := PySem.W.dataLe false (·.2)
def rSortD (K : PySem.W.Frag) : List V → Hp → VK → Prop := fun vs H Q => ∃ (a : Addr) (xs : List V) (ds : List PyData), vs = [V.ref a] ∧ SqL K H a xs ∧ DpAll K H xs ds ∧ PySem.W.AllAlike ds ∧ PySem.W.Sortable ds ∧ (∀ d ∈ ds, d.depth ≤ 64) ∧
  ∀ p, H p = none → Q (.ref p) (upd H p (.lst (((xs.zip ds).mergeSort leD).map (·.1))))
theorem dpAll_len {K : PySem.W.Frag} {H : Hp} : ∀ {xs : List V} {ds : List PyData}, DpAll K H xs ds → xs.length = ds.length
  | _, _, .nil => rfl
  | _, _, .cons _ t => by rw [List.length_cons, List.length_cons, dpAll_len t]
theorem map_snd_zip {α β : Type} : ∀ {xs : List α} {ys : List β}, xs.length = ys.length → (xs.zip ys).map (·.2) = ys
  | [], [], _ => rfl
  | x :: xs, y :: ys, h => by
    show y :: (xs.zip ys).map (·.2) = y :: ys
    rw [map_snd_zip (by simpa using h)]
theorem map_fst_zip {α β : Type} : ∀ {xs : List α} {ys : List β}, xs.length = ys.length → (xs.zip ys).map (·.1) = xs
  | [], [], _ => rfl
  | x :: xs, y :: ys, h => by
    show x :: (xs.zip ys).map (·.1) = x :: xs
    rw [map_fst_zip (by simpa using h)]
theorem each_zip1 : ∀ {us : List Value} {xs : List V} {ds : List PyData}, Vals xs us → xs.length = ds.length → PySem.W.EachIs (fun (v : Value) (b : V × PyData) => RelV b.1 v) us (xs.zip ds)
  | _, [], [], .nil, _ => .nil
  | _, x :: xs, d :: ds, .cons r t, h => .cons r (each_zip1 t (by simpa using h))
theorem each_zip2 {hp : Heap} : ∀ {us : List Value} {xs : List V} {ds : List PyData} {as : List Addr}, xs.length = ds.length → ReadsAll hp us ds as → PySem.W.EachIs (fun (v : Value) (b : V × PyData) => ∃ as, Reads hp v b.2 as) us (xs.zip ds)
  | _, [], [], _, _, .nil => .nil
  | _, x :: xs, d :: ds, _, h, .cons r t => .cons ⟨_, r⟩ (each_zip2 (by simpa using h) t)
theorem vals_each : ∀ {out : List Value} {bs : List (V × PyData)}, PySem.W.EachIs (fun (v : Value) (b : V × PyData) => RelV b.1 v) out bs → Vals (bs.map (·.1)) out
  | _, _, .nil => .nil
  | _, _, .cons r t => .cons r (vals_each t)
theorem cr_sortD {X : Cx} (hu : X.A.units + 70 < cLine) : CallR X (.builtin "sorted") (rSortD X.K) := by
  intro pins s σ H xs us Q I r h
  obtain ⟨a, xs, ds, rfl, hs, hd, al, so, dp, q⟩ := h
  rw [Vals.ref1 r]
  obtain ⟨its, rv, pl, hz⟩ := I.list hs
  obtain ⟨as, hr⟩ := Dp.readsAll I ds xs its hd rv
  have hl := dpAll_len hd
  have hm : (xs.zip ds).map (fun b : V × PyData => b.2) = ds := map_snd_zip hl
  have hzl : (xs.zip ds).length = xs.length := by rw [List.length_zip]; omega
  refine PySem.W.sorted_data (R := fun v (b : V × PyData) => RelV b.1 v) (enc := fun b => b.2) (bs := xs.zip ds) pl.isList (each_zip1 rv hl) (each_zip2 hl hr) (by rw [hm]; exact al) (by rw [hm]; exact so) (by rw [hzl]; exact hz) (fun b hb => ?_) fun out hlen ho => ?_
  · have := dp b.2 (by rw [← hm]; exact List.mem_map.mpr ⟨b, hb, rfl⟩)
    omega
  · have rv2 := vals_each ho
    obtain ⟨ep, he'⟩ := PyProof.Rows.sortedAll_at s.heap its out.toArray
    have hlen2 : (((xs.zip ds).mergeSort leD).map (·.1)).length ≤ sizeLine := by rw [List.length_map, List.length_mergeSort, hzl]; exact hz
    exact ⟨.ref _, upd H (s.heap.objs.size + 1) (.lst (((xs.zip ds).mergeSort leD).map (·.1))), I.laid (t' := s.toks) (fun _ _ => PyProof.Rows.sortedAll_old) (Nat.le_succ _) ⟨hlen2, out, ep, rv2, he'⟩, rfl, q _ (I.hok.fresh (Nat.le_succ _))⟩
def isTup1 : PyData → Bool
  | .tuple (_ :: _) => true
  | _ => false
def notTup : PyData → Bool
  | .tuple _ => false
  | .none => false
  | _ => true
def sortable (ds : List PyData) : Bool := ds.all isTup1 || ds.all notTup
theorem sortable_ok {ds : List PyData} (h : sortable ds = true) : PySem.W.Sortable ds := by
  unfold sortable at h
  rcases Bool.or_eq_true_iff.mp h with h | h
  · refine .inl fun d hd => ?_
    have := List.all_eq_true.mp h d hd
    cases d with
    | tuple xs =>
      cases xs with
      | nil => cases this
      | cons x r => exact ⟨x, r, rfl⟩
    | _ => cases this
  · refine .inr fun d hd => ?_
    have := List.all_eq_true.mp h d hd
    refine ⟨fun e => ?_, fun xs e => ?_⟩ <;> (subst e; cases this)
def sortL {α : Type} (xs : List α) (ds : List PyData) : List α := ((xs.zip ds).mergeSort leD).map (·.1)
theorem paired_zip {α β : Type} {F : α → β → Prop} : ∀ {xs : List α} {ys : List β}, Paired F xs ys → ∀ p ∈ xs.zip ys, F p.1 p.2
  | _, _, .nil, p, h => by cases h
  | _, _, .cons r t, p, h => by
    rcases List.mem_cons.mp h with rfl | h
    · exact r
    · exact paired_zip t p h
theorem paired_of_zip {α β : Type} {F : α → β → Prop} : ∀ {l : List (α × β)}, (∀ p ∈ l, F p.1 p.2) → Paired F (l.map (·.1)) (l.map (·.2))
  | [], _ => .nil
  | p :: l, h => .cons (h p List.mem_cons_self) (paired_of_zip fun q hq => h q (List.mem_cons_of_mem _ hq))
theorem sortL_map {α β : Type} (f : α → β) {xs : List α} {ds : List PyData} : (sortL xs ds).map f = sortL (xs.map f) ds := by
  unfold sortL
  have e : (xs.map f).zip ds = (xs.zip ds).map (fun p => (f p.1, p.2)) := by
    rw [List.zip_map_left]; rfl
  rw [e, ← List.map_mergeSort (r := leD) (s := leD) (f := fun p : α × PyData => (f p.1, p.2)) (fun a _ b _ => rfl), List.map_map, List.map_map]
  rfl
theorem sortL_rel {α β : Type} {F : α → β → Prop} {xs : List α} {ys : List β} {ds : List PyData} (r : Paired F xs ys) : Paired F (sortL xs ds) (sortL ys ds) := by
  have hl := Paired.length r
  have e1 : sortL xs ds = (sortL (xs.zip ys) ds).map (·.1) := by rw [sortL_map, map_fst_zip hl]
  have e2 : sortL ys ds = (sortL (xs.zip ys) ds).map (·.2) := by rw [sortL_map, map_snd_zip hl]
  rw [e1, e2]
  refine paired_of_zip fun p hp => paired_zip r p ?_
  unfold sortL at hp
  obtain ⟨q, hq, rfl⟩ := List.mem_map.mp hp
  rw [List.mem_mergeSort] at hq
  exact (List.of_mem_zip hq).1
def rSortK : List V → Hp → VK → Prop := fun xs H Q => ∃ (a : Addr) (kvs : List (Key × V)) (ks : List Int), xs = [.ref a] ∧ Rd H a (.dK kvs) ∧ kvs.map (·.1) = ks.map Sum.inl ∧ ks.length < 64 ∧
    ∀ (ys : List Int) (p : Addr), ys.Perm ks → ys.Pairwise (· ≤ ·) → H p = none → Q (.ref p) (upd H p (.lst (ys.map V.int)))
def intKeys {α : Type} : List (Key × α) → Option (List Int)
  | [] => some []
  | (.inl i, _) :: r => match intKeys r with
    | some l => some (i :: l)
    | none => none
  | _ :: _ => none
def sortedV (as : List Va) (h : Hh) : RE Va := match as with
  | [.ref m] => match h[m]? with
    | some (.lst xs) => match datL (dat DD h) xs with
      | some ds => if SeqAt.shaped (.list ds) = true ∧ alikeB ds = true ∧ sortable ds = true then alloc (.lst (sortL xs ds)) h else .bad
      | none => .bad
    | some (.dK kvs) => match intKeys kvs with
      | some ks => if ks.length < 64 then alloc (.lst ((ks.mergeSort fun a b => decide (a ≤ b)).map .int)) h else .bad
      | none => .bad
    | _ => .bad
  | _ => .bad
theorem intKeys_ok : ∀ {kvs : List (Key × Va)} {ks : List Int}, intKeys kvs = some ks → kvs.map (·.1) = ks.map Sum.inl
  | [], _, e => by cases e; rfl
  | (.inl i, a) :: r, ks, e => by
    unfold intKeys at e
    split at e
    · rename_i l q
      cases e
      show Sum.inl i :: r.map (·.1) = Sum.inl i :: l.map Sum.inl
      rw [intKeys_ok q]
    · cases e
  | (.inr i, a) :: r, ks, e => by cases e
theorem depth_mem : ∀ {ds : List PyData} {d : PyData}, d ∈ ds → d.depth ≤ PyData.depthAll ds
  | [], _, h => by cases h
  | x :: xs, d, h => by
    rw [PyData.depthAll]
    rcases List.mem_cons.mp h with rfl | h
    · exact Nat.le_max_left _ _
    · exact Nat.le_trans (depth_mem h) (Nat.le_max_right _ _)
theorem sort_uniq : ∀ {l m : List Int}, l.Perm m → l.Pairwise (· ≤ ·) → m.Pairwise (· ≤ ·) → l = m := fun p h1 h2 => List.Perm.eq_of_pairwise (fun a b _ _ h k => Int.le_antisymm h k) h1 h2 p
theorem cs_sorted : CallS S sortedV (fun xs H Q => rSortD S.K xs H Q ∨ rSortK xs H Q) := by
  intro ρ h H as xs W τ Q m rs o
  unfold sortedV at o
  split at o
  · obtain ⟨x, rfl, p, e1, rfl⟩ := one_rel rs
    split at o
    · rename_i ys q
      obtain ⟨vs, g, r⟩ := m.lst e1 q
      split at o
      · rename_i ds qd
        split at o
        · rename_i hz
          refine .inl ⟨p, vs, ds, rfl, .of g, dp_all (fun a x d r e => dp_of m DD a x d r e) r qd, fun d hd d' hd' => alikeB_ok hz.2.1 d hd d' hd', sortable_ok hz.2.2, fun d hd => ?_, out_alloc (o := .lst (sortL ys ds)) m ⟨_, rfl, sortL_rel r⟩ o⟩
          have := SeqAt.depth_of_shaped hz.1
          rw [PyData.depth] at this
          have := depth_mem hd
          omega
        · exact o.elim
      · exact o.elim
    · rename_i kvs q
      obtain ⟨ws, g, r⟩ := m.dK e1 q
      split at o
      · rename_i ks qk
        split at o
        · rename_i hz
          have hk : ws.map (·.1) = ks.map Sum.inl := by
            rw [← intKeys_ok qk]
            clear qk q g o hz
            induction r with
            | nil => rfl
            | cons a b ih => rw [List.map_cons, List.map_cons, ih, a.1]
          refine .inr ⟨p, ws, ks, rfl, .inl g, hk, hz, fun zs b hp hs hb => ?_⟩
          have e : zs = ks.mergeSort (fun a b => decide (a ≤ b)) := by
            refine sort_uniq (hp.trans (List.mergeSort_perm ks _).symm) hs ?_
            have := List.pairwise_mergeSort (le := fun (a b : Int) => decide (a ≤ b)) (fun a b c h1 h2 => by simp only [decide_eq_true_eq] at *; omega) (fun a b => by simp only [Bool.or_eq_true, decide_eq_true_eq]; omega) ks
            exact this.imp fun h => by simpa using h
          rw [e]
          exact out_alloc (o := .lst _) m ⟨_, rfl, ints_rel _⟩ o b hb
        · exact o.elim
      · exact o.elim
    · exact o.elim
  · exact o.elim

/-! ### repr, str -/
def rRepr (K : PySem.W.Frag) : List V → Hp → VK → Prop := fun vs H Q => ∃ (a : Addr) (d : PyData), vs = [V.ref a] ∧ Dp K H (.ref a) d ∧ d.showable = true ∧ SeqAt.shaped d = true ∧ d.shown.length ≤ sizeLine ∧ Q (.str d.shown) H
theorem cr_repr {X : Cx} (hg : X.A.guards = some []) (hu : X.A.units + 70 < cLine) : CallR X (.builtin "repr") (rRepr X.K) := by
  intro pins s σ H xs us Q I r h
  obtain ⟨a, d, rfl, hd, hs, sh, hl, q⟩ := h
  rw [Vals.ref1 r]
  obtain ⟨as, hr⟩ := Dp.reads I d (.ref a) (.ref a) hd rfl
  have := SeqAt.depth_of_shaped sh
  refine repr_of_reads' hr hs (PyData.noDict_hsm (PyData.hasDict_of_canLay d (SeqAt.canLay_of_shaped sh))) hg (by omega) (fun _ _ e => e) (fun h' u tk k => ?_) hl
  exact ⟨.str d.shown, H, I.kept k, ⟨_, rfl⟩, q⟩
def reprV (as : List Va) (h : Hh) : RE Va := match as with
  | [.ref m] => match dat DD h (.ref m) with
    | some d => if d.showable = true ∧ SeqAt.shaped d = true ∧ d.shown.length ≤ BIG then .ok (.str d.shown) h else .bad
    | none => .bad
  | _ => .bad
theorem cs_repr : CallS S reprV (rRepr S.K) := by
  intro ρ h H as xs W τ Q m rs o
  unfold reprV at o
  split at o
  · obtain ⟨x, rfl, ra⟩ := one_rel rs
    split at o
    · rename_i d q
      split at o
      · rename_i hz
        have hd := dp_of m DD _ x d ra q
        obtain ⟨p, e1, rfl⟩ := ra
        exact ⟨p, d, rfl, hd, hz.1, hz.2.1, by rw [← big_eq]; exact hz.2.2, o ρ _ _ .refl m rfl⟩
      · exact o.elim
    · exact o.elim
  · exact o.elim
def strV (as : List Va) (h : Hh) : RE Va := match as with
  | [.int i] => if i.natAbs.log2 < 1920 then .ok (.str (toString i)) h else .bad
  | _ => .bad
theorem cs_str : CallS S strV (fun xs H Q => ∃ i, xs = [.int i] ∧ i.natAbs.log2 < 1920 ∧ Q (.str (toString i)) H) := by
  intro ρ h H as xs W τ Q m rs o
  unfold strV at o
  split at o
  · obtain ⟨x, rfl, ra⟩ := one_rel rs
    cases ra
    split at o
    · rename_i hz
      exact ⟨_, rfl, hz, o ρ _ _ .refl m rfl⟩
    · exact o.elim
  · exact o.elim

/-! ### dict(pairs) -/
def pairsOf (h : Hh) : List Va → Option (List (Key × Va))
  | [] => some []
  | .ref l :: r => match h[l]? with
    | some (.tup [k, v]) => match keyOf k with
      | some k => match pairsOf h r with
        | some kvs => some ((k, v) :: kvs)
        | none => none
      | none => none
    | _ => none
  | _ :: _ => none
def mergeA (kvs : List (Key × Va)) : List (Key × Va) := kvs.foldl (fun acc kv => putL acc kv.1 kv.2) []
theorem pairsOf_rel {ρ : List Addr} {h : Hh} {H : Hp} (m : Mo S ρ h H) : ∀ {xs : List Va} {vs : List V} {kvs : List (Key × Va)}, RVs S ρ xs vs → pairsOf h xs = some kvs →
    ∃ (ps : List Addr) (ws : List (Key × V)), vs = ps.map V.ref ∧ Paired (fun p kv => SqT S.K H p [kV kv.1, kv.2]) ps ws ∧ Paired (fun p q => p.1 = q.1 ∧ RV S ρ p.2 q.2) kvs ws
  | [], _, _, r, e => by cases r; cases e; exact ⟨[], [], rfl, .nil, .nil⟩
  | .ref l :: xs, _, kvs, r, e => by
    unfold pairsOf at e
    split at e
    · rename_i k v q
      split at e
      · rename_i key qk
        split at e
        · rename_i kvs' q2
          cases e
          cases r with
          | cons r1 r2 =>
            obtain ⟨p, e1, rfl⟩ := r1
            obtain ⟨zs, g, rz⟩ := m.tup e1 q
            obtain ⟨x, y, rfl, rk, rv⟩ := two_rel rz
            obtain ⟨ps, ws, h1, h2, h3⟩ := pairsOf_rel m r2 q2
            refine ⟨p :: ps, (key, y) :: ws, by rw [h1]; rfl, .cons ?_ h2, .cons ⟨rfl, rv⟩ h3⟩
            rw [keyOf_rel rk qk] at g
            exact .of g
        · cases e
      · cases e
    · cases e
  | .non :: _, _, _, _, e => by cases e
  | .bl _ :: _, _, _, _, e => by cases e
  | .int _ :: _, _, _, _, e => by cases e
  | .str _ :: _, _, _, _, e => by cases e
  | .scr :: _, _, _, _, e => by cases e
def dictV (as : List Va) (h : Hh) : RE Va := match as with
  | [.ref m] => match h[m]? with
    | some (.lst xs) => match pairsOf h xs with
      | some kvs => alloc (.dK (mergeA kvs)) h
      | none => .bad
    | _ => .bad
  | _ => .bad
def rDictP (K : PySem.W.Frag) : List V → Hp → VK → Prop := fun xs H Q => ∃ (a : Addr) (ps : List Addr) (kvs : List (Key × V)), xs = [.ref a] ∧ SqL K H a (ps.map V.ref) ∧ Paired (fun p kv => SqT K H p [kV kv.1, kv.2]) ps kvs ∧
    ∀ p, H p = none → Q (.ref p) (upd H p (.dK (mergeK [] kvs)))
theorem mergeA_rel {ρ : List Addr} {kvs : List (Key × Va)} {ws : List (Key × V)} (r : Paired (fun p q => p.1 = q.1 ∧ RV S ρ p.2 q.2) kvs ws) : Paired (fun p q => p.1 = q.1 ∧ RV S ρ p.2 q.2) (mergeA kvs) (mergeK [] ws) := by
  have gen : ∀ {kvs : List (Key × Va)} {ws : List (Key × V)} {acc : List (Key × Va)} {bcc : List (Key × V)}, Paired (fun p q => p.1 = q.1 ∧ RV S ρ p.2 q.2) kvs ws → Paired (fun p q => p.1 = q.1 ∧ RV S ρ p.2 q.2) acc bcc →
      Paired (fun p q => p.1 = q.1 ∧ RV S ρ p.2 q.2) (kvs.foldl (fun acc kv => putL acc kv.1 kv.2) acc) (ws.foldl (fun acc kv => putK acc kv.1 kv.2) bcc) := by
    intro kvs ws acc bcc r
    induction r generalizing acc bcc with
    | nil => exact fun h => h
    | cons a b ih =>
      intro h
      rw [List.foldl_cons, List.foldl_cons]
      refine ih ?_
      rw [a.1]
      exact putL_rel a.2 h
  exact gen r .nil
theorem cs_dict : CallS S dictV (rDictP S.K) := by
  intro ρ h H as xs W τ Q m rs o
  unfold dictV at o
  split at o
  · obtain ⟨x, rfl, p, e1, rfl⟩ := one_rel rs
    split at o
    · rename_i ys q
      split at o
      · rename_i kvs qk
        obtain ⟨vs, g, r⟩ := m.lst e1 q
        obtain ⟨ps, ws, rfl, h2, h3⟩ := pairsOf_rel m r qk
        exact ⟨p, ps, ws, rfl, .of g, h2, out_alloc (o := .dK (mergeA kvs)) m ⟨_, rfl, mergeA_rel h3⟩ o⟩
      · exact o.elim
    · exact o.elim
  · exact o.elim
end HA

namespace HA
open PySem PySem.Spec PyProof.Rows L2
variable {S : Fx}

/-! ### methods of lists, dicts, texts -/
inductive Mt where
  | append | extend | pop | index | count | get | insert | clear | update | join | split
  deriving DecidableEq
/-- the kinds of receivers -/
inductive Kd where
  | l | d | s
  deriving DecidableEq
def Kd.T : Kd → String
  | .l => "list" | .d => "dict" | .s => "str"
def kdOf (a : Va) (h : Hh) : Option Kd := match a with
  | .str _ => some .s
  | .ref m => match h[m]? with
    | some (.lst _) => some .l
    | some (.dK _) => some .d
    | some (.dT _) => some .d
    | _ => none
  | _ => none
theorem kdOf_ok {ρ : List Addr} {h : Hh} {H : Hp} {a : Va} {x : V} {k : Kd} (m : Mo S ρ h H) (r : RV S ρ a x) (e : kdOf a h = some k) : tyV S.K k.T x H := by
  unfold kdOf at e
  split at e
  · cases e
    cases r
    rfl
  · rename_i n
    obtain ⟨p, e1, rfl⟩ := r
    split at e
    · rename_i xs q
      cases e
      obtain ⟨vs, g, _⟩ := m.lst e1 q
      exact .inl ⟨rfl, vs, .of g⟩
    · rename_i kvs q
      cases e
      obtain ⟨vs, g, _⟩ := m.dK e1 q
      exact .inr (.inr (.inl ⟨rfl, .inl ⟨_, g⟩⟩))
    · rename_i kvs q
      cases e
      obtain ⟨vs, g, _⟩ := m.dT e1 q
      exact .inr (.inr (.inl ⟨rfl, .inr ⟨_, g⟩⟩))
    · cases e
  · cases e
def MthS (S : Fx) (g : Va → List Va → Hh → RE Va) (r : V → List V → Hp → VK → Prop) : Prop := ∀ (ρ : List Addr) (h : Hh) (H : Hp) (a : Va) (x : V) (as : List Va) (xs : List V) (W : WX) (τ : L2.St) (Q : VK), Mo S ρ h H → RV S ρ a x → RVs S ρ as xs → Out S (RV S) W ρ (g a as h) τ Q → r x xs H Q

/-! lists -/
def appendV (a : Va) (as : List Va) (h : Hh) : RE Va := match a, as with
  | .ref m, [y] => match h[m]? with
    | some (.lst xs) => if xs.length < BIG then .ok .non (h.set m (.lst (xs ++ [y]))) else .bad
    | _ => .bad
  | _, _ => .bad
theorem ms_append : MthS S appendV rAppend := by
  intro ρ h H a x as xs W τ Q m ra rs o
  unfold appendV at o
  split at o
  · obtain ⟨p, e1, rfl⟩ := ra
    obtain ⟨y, rfl, ry⟩ := one_rel rs
    split at o
    · rename_i ys q
      obtain ⟨vs, g, r⟩ := m.lst e1 q
      split at o
      · rename_i hz
        refine ⟨_, vs, _, rfl, rfl, g, by rw [← big_eq, ← Paired.length r]; exact hz, ?_⟩
        exact o ρ .non _ .refl (m.set (o' := .lst (ys ++ [_])) (ho' := .lst (vs ++ [y])) e1 q (fun _ z => by cases z) (fun _ z => by cases z) ⟨_, rfl, Paired.app r (.cons ry .nil)⟩) rfl
      · exact o.elim
    · exact o.elim
  · exact o.elim
def extendV (a : Va) (as : List Va) (h : Hh) : RE Va := match a, as with
  | .ref m, [.ref n] => match h[m]?, h[n]? with
    | some (.lst xs), some (.lst ys) => if xs.length + ys.length ≤ BIG then .ok .non (h.set m (.lst (xs ++ ys))) else .bad
    | _, _ => .bad
  | _, _ => .bad
theorem ms_extend : MthS S extendV rExtend := by
  intro ρ h H a x as xs W τ Q m ra rs o
  unfold extendV at o
  split at o
  · obtain ⟨p, e1, rfl⟩ := ra
    obtain ⟨y, rfl, ry⟩ := one_rel rs
    obtain ⟨p2, e2, rfl⟩ := ry
    split at o
    · rename_i ys zs q q2
      obtain ⟨vs, g, r⟩ := m.lst e1 q
      obtain ⟨ws, g2, r2⟩ := m.lst e2 q2
      split at o
      · rename_i hz
        refine ⟨_, _, vs, ws, rfl, rfl, g, g2, by rw [← big_eq, ← Paired.length r, ← Paired.length r2]; exact hz, ?_⟩
        exact o ρ .non _ .refl (m.set (o' := .lst (ys ++ zs)) (ho' := .lst (vs ++ ws)) e1 q (fun _ z => by cases z) (fun _ z => by cases z) ⟨_, rfl, Paired.app r r2⟩) rfl
      · exact o.elim
    · exact o.elim
  · exact o.elim
theorem Paired.dropLast {α β : Type} {F : α → β → Prop} {xs : List α} {ys : List β} (h : Paired F xs ys) : Paired F xs.dropLast ys.dropLast := by
  induction h with
  | nil => exact .nil
  | cons r t ih =>
    cases t with
    | nil => exact .nil
    | cons q t' => exact .cons r ih
theorem Paired.erase {α β : Type} {F : α → β → Prop} : ∀ {xs : List α} {ys : List β} (i : Nat), Paired F xs ys → Paired F (xs.eraseIdx i) (ys.eraseIdx i)
  | _, _, _, .nil => .nil
  | _, _, 0, .cons _ t => t
  | _, _, i + 1, .cons r t => .cons r (Paired.erase i t)
def popV (a : Va) (as : List Va) (h : Hh) : RE Va := match a with
  | .ref m => match h[m]? with
    | some (.lst xs) => match as with
      | [] => match xs[xs.length - 1]? with
        | some y => .ok y (h.set m (.lst xs.dropLast))
        | none => .bad
      | [.int i] => if -9223372036854775808 ≤ i ∧ i < 9223372036854775808 then match seqIndex? i xs.length with
          | some k => match xs[k]? with
            | some y => .ok y (h.set m (.lst (xs.eraseIdx k)))
            | none => .bad
          | none => .bad
        else .bad
      | _ => .bad
    | _ => .bad
  | _ => .bad
theorem ms_pop : MthS S popV (fun x xs H Q => rPop x xs H Q ∨ rPopAt x xs H Q) := by
  intro ρ h H a x as xs W τ Q m ra rs o
  unfold popV at o
  split at o
  · obtain ⟨p, e1, rfl⟩ := ra
    split at o
    · rename_i ys q
      obtain ⟨vs, g, r⟩ := m.lst e1 q
      split at o
      · cases rs
        split at o
        · rename_i y hy
          obtain ⟨yv, hy2, ry⟩ := Paired.get r hy
          refine .inl ⟨_, vs, yv, rfl, rfl, g, by rw [← Paired.length r]; exact hy2, ?_⟩
          exact o ρ yv _ .refl (m.set (o' := .lst ys.dropLast) (ho' := .lst vs.dropLast) e1 q (fun _ z => by cases z) (fun _ z => by cases z) ⟨_, rfl, Paired.dropLast r⟩) ry
        · exact o.elim
      · obtain ⟨iv, rfl, ri⟩ := one_rel rs
        cases ri
        split at o
        · rename_i hr
          split at o
          · rename_i k hk
            split at o
            · rename_i y hy
              obtain ⟨yv, hy2, ry⟩ := Paired.get r hy
              refine .inr ⟨_, vs, _, k, yv, rfl, rfl, g, hr.1, hr.2, by rw [← Paired.length r]; exact hk, hy2, ?_⟩
              exact o ρ yv _ .refl (m.set (o' := .lst (ys.eraseIdx k)) (ho' := .lst (vs.eraseIdx k)) e1 q (fun _ z => by cases z) (fun _ z => by cases z) ⟨_, rfl, Paired.erase k r⟩) ry
            · exact o.elim
          · exact o.elim
        · exact o.elim
      · exact o.elim
    · exact o.elim
  · exact o.elim
def clearV (a : Va) (as : List Va) (h : Hh) : RE Va := match a, as with
  | .ref m, [] => match h[m]? with
    | some (.lst _) => .ok .non (h.set m (.lst []))
    | _ => .bad
  | _, _ => .bad
theorem ms_clear : MthS S clearV rClear := by
  intro ρ h H a x as xs W τ Q m ra rs o
  unfold clearV at o
  split at o
  · obtain ⟨p, e1, rfl⟩ := ra
    cases rs
    split at o
    · rename_i ys q
      obtain ⟨vs, g, r⟩ := m.lst e1 q
      refine ⟨_, vs, rfl, rfl, g, ?_⟩
      exact o ρ .non _ .refl (m.set (o' := .lst []) (ho' := .lst []) e1 q (fun _ z => by cases z) (fun _ z => by cases z) ⟨_, rfl, .nil⟩) rfl
    · exact o.elim
  · exact o.elim
def rInsert : V → List V → Hp → VK → Prop := fun x vs H Q => ∃ (l : Addr) (xs : List V) (i : Int) (y : V), x = .ref l ∧ vs = [.int i, y] ∧ H l = some (.lst xs) ∧ xs.length < sizeLine ∧ 0 ≤ i ∧ i < 2 ^ 63 ∧
    Q .non (upd H l (.lst (xs.take i.toNat ++ [y] ++ xs.drop i.toNat)))
def insertV (a : Va) (as : List Va) (h : Hh) : RE Va := match a, as with
  | .ref m, [.int i, y] => match h[m]? with
    | some (.lst xs) => if xs.length < BIG ∧ 0 ≤ i ∧ i < 9223372036854775808 then .ok .non (h.set m (.lst (xs.take i.toNat ++ [y] ++ xs.drop i.toNat))) else .bad
    | _ => .bad
  | _, _ => .bad
theorem ms_insert : MthS S insertV rInsert := by
  intro ρ h H a x as xs W τ Q m ra rs o
  unfold insertV at o
  split at o
  · obtain ⟨p, e1, rfl⟩ := ra
    obtain ⟨iv, y, rfl, ri, ry⟩ := two_rel rs
    cases ri
    split at o
    · rename_i ys q
      obtain ⟨vs, g, r⟩ := m.lst e1 q
      split at o
      · rename_i hz
        refine ⟨_, vs, _, y, rfl, rfl, g, by rw [← big_eq, ← Paired.length r]; exact hz.1, hz.2.1, hz.2.2, ?_⟩
        exact o ρ .non _ .refl (m.set (o' := .lst (ys.take _ ++ [_] ++ ys.drop _)) (ho' := .lst (vs.take _ ++ [y] ++ vs.drop _)) e1 q (fun _ z => by cases z) (fun _ z => by cases z) ⟨_, rfl, Paired.app (Paired.app (Paired.take _ r) (.cons ry .nil)) (Paired.drop _ r)⟩) rfl
      · exact o.elim
    · exact o.elim
  · exact o.elim
/-- the first place -/
def findIx (d : PyData) : List PyData → Nat → Option Nat
  | [], _ => none
  | z :: r, n => if PyData.eqv z d = true then some n else findIx d r (n + 1)
theorem findIx_ok {d : PyData} : ∀ {ds : List PyData} {n j : Nat}, findIx d ds n = some j → n ≤ j ∧ ∃ z, ds[j - n]? = some z ∧ PyData.eqv z d = true ∧ ∀ (m : Nat) (z' : PyData), m < j - n → ds[m]? = some z' → PyData.eqv z' d = false
  | [], n, j, e => by cases e
  | z :: r, n, j, e => by
    unfold findIx at e
    split at e
    · rename_i h
      cases e
      refine ⟨Nat.le_refl _, z, by rw [Nat.sub_self]; rfl, h, fun m z' hm _ => ?_⟩
      omega
    · rename_i h
      obtain ⟨h1, z2, h2, h3, h4⟩ := findIx_ok e
      have e1 : j - n = (j - (n + 1)) + 1 := by omega
      refine ⟨by omega, z2, by rw [e1]; exact h2, h3, fun m z' hm hz => ?_⟩
      cases m with
      | zero =>
        cases hz
        simpa using h
      | succ m => exact h4 m z' (by omega) hz
def indexV (a : Va) (as : List Va) (h : Hh) : RE Va := match a, as with
  | .ref m, [y] => match dat DD h (.ref m), dat DD h y with
    | some (.list ds), some d => if SeqAt.shaped (.list ds) = true ∧ SeqAt.shaped d = true then match findIx d ds 0 with
        | some j => .ok (.int j) h
        | none => .bad
      else .bad
    | _, _ => .bad
  | _, _ => .bad
def sindexV (a : Va) (as : List Va) (h : Hh) : RE Va := match a, as with
  | .str a, [.str b] => match Builtin.Str.occurrences a b 0 a.length 1 with
    | i :: _ => .ok (.int (i : Nat)) h
    | [] => .bad
  | _, _ => .bad
def rSIndex : V → List V → Hp → VK → Prop := fun x xs H Q => ∃ a b i rest, x = .str a ∧ xs = [.str b] ∧ Builtin.Str.occurrences a b 0 a.length 1 = i :: rest ∧ Q (.int (i : Nat)) H
theorem ms_index : MthS S indexV (rIndexD S.K) := by
  intro ρ h H a x as xs W τ Q m ra rs o
  unfold indexV at o
  split at o
  · obtain ⟨yv, rfl, ry⟩ := one_rel rs
    split at o
    · rename_i ds d q1 q2
      split at o
      · rename_i hs
        split at o
        · rename_i j hj
          obtain ⟨_, z, h2, h3, h4⟩ := findIx_ok hj
          have d1 := dp_of m DD _ _ _ ra q1
          have d2 := dp_of m DD _ _ _ ry q2
          obtain ⟨p, e1, rfl⟩ := ra
          exact ⟨p, yv, d, ds, j, z, rfl, rfl, d1, d2, hs.1, hs.2, h2, h3, h4, o ρ _ _ .refl m rfl⟩
        · exact o.elim
      · exact o.elim
    · exact o.elim
  · exact o.elim
theorem ms_sindex : MthS S sindexV rSIndex := by
  intro ρ h H a x as xs W τ Q m ra rs o
  unfold sindexV at o
  split at o
  · cases ra
    obtain ⟨yv, rfl, ry⟩ := one_rel rs
    cases ry
    split at o
    · rename_i i r q
      exact ⟨_, _, i, r, rfl, rfl, q, o ρ _ _ .refl m rfl⟩
    · exact o.elim
  · exact o.elim
def countV (a : Va) (as : List Va) (h : Hh) : RE Va := match a, as with
  | .ref m, [.int k] => match h[m]? with
    | some (.lst xs) => match intsOf xs with
      | some ns => .ok (.int (ns.count k : Nat)) h
      | none => .bad
    | _ => .bad
  | _, _ => .bad
theorem ms_count : MthS S countV (rCntI S.K) := by
  intro ρ h H a x as xs W τ Q m ra rs o
  unfold countV at o
  split at o
  · obtain ⟨p, e1, rfl⟩ := ra
    obtain ⟨yv, rfl, ry⟩ := one_rel rs
    cases ry
    split at o
    · rename_i ys q
      obtain ⟨vs, g, r⟩ := m.lst e1 q
      split at o
      · rename_i ns qn
        refine ⟨p, ns, _, rfl, rfl, .of ?_, o ρ _ _ .refl m rfl⟩
        rw [g, intsOf_rel r qn]
      · exact o.elim
    · exact o.elim
  · exact o.elim

/-! dicts -/
def rGet : V → List V → Hp → VK → Prop := fun x xs H Q => (∃ a y o, x = .ref a ∧ xs = [y] ∧ DGetA H a y o ∧ Q (o.getD .non) H) ∨ ∃ a y d o, x = .ref a ∧ xs = [y, d] ∧ DGetA H a y o ∧ Q (o.getD d) H
theorem mt_get {X : Cx} (hu : X.A.units + 1 < cLine) : MtR X "dict.get" rGet := by
  intro pins s σ H x xs v us Q I rx rxs h
  rcases h with ⟨a, y, o, rfl, rfl, g, q⟩ | ⟨a, y, d, o, rfl, rfl, g, q⟩
  · cases rx
    obtain ⟨u, rfl, ru⟩ := rxs.one
    exact get1_dict hu I g ru fun w' s' I' r => ⟨_, H, I', r, q⟩
  · cases rx
    obtain ⟨u, u2, rfl, ru, ru2⟩ := rxs.two
    exact get2_dict hu I g ru ru2 fun w' s' I' r => ⟨_, H, I', r, q⟩
def getV (a : Va) (as : List Va) (h : Hh) : RE Va := match a, as with
  | .ref m, [y] => match dLook h m y with
    | some o => .ok (o.getD .non) h
    | none => .bad
  | .ref m, [y, d] => match dLook h m y with
    | some o => .ok (o.getD d) h
    | none => .bad
  | _, _ => .bad
theorem ms_get : MthS S getV rGet := by
  intro ρ h H a x as xs W τ Q m ra rs o
  unfold getV at o
  split at o
  · obtain ⟨p, e1, rfl⟩ := ra
    obtain ⟨y, rfl, ry⟩ := one_rel rs
    split at o
    · rename_i r q
      rcases dLook_get m e1 ry q with ⟨rfl, g⟩ | ⟨b, z, rfl, g, rz⟩
      · exact .inl ⟨p, y, none, rfl, rfl, g, o ρ _ _ .refl m rfl⟩
      · exact .inl ⟨p, y, some z, rfl, rfl, g, o ρ _ _ .refl m rz⟩
    · exact o.elim
  · obtain ⟨p, e1, rfl⟩ := ra
    obtain ⟨y, dv, rfl, ry, rd⟩ := two_rel rs
    split at o
    · rename_i r q
      rcases dLook_get m e1 ry q with ⟨rfl, g⟩ | ⟨b, z, rfl, g, rz⟩
      · exact .inr ⟨p, y, dv, none, rfl, rfl, g, o ρ _ _ .refl m rd⟩
      · exact .inr ⟨p, y, dv, some z, rfl, rfl, g, o ρ _ _ .refl m rz⟩
    · exact o.elim
  · exact o.elim

/-! texts -/
def strsOf : List Va → Option (List Str)
  | [] => some []
  | .str a :: r => match strsOf r with
    | some l => some (a :: l)
    | none => none
  | _ :: _ => none
theorem strsOf_rel {ρ : List Addr} : ∀ {xs : List Va} {vs : List V} {ss : List Str}, RVs S ρ xs vs → strsOf xs = some ss → vs = ss.map V.str
  | [], _, _, .nil, e => by cases e; rfl
  | x :: xs, _, ss, .cons r t, e => by
    unfold strsOf at e
    split at e
    · rename_i heq; cases heq
    · rename_i heq
      cases heq
      split at e
      · rename_i l q
        cases e
        cases r
        rw [strsOf_rel t q]
        rfl
      · cases e
    · cases e
def joinV (a : Va) (as : List Va) (h : Hh) : RE Va := match a, as with
  | .str a, [.ref m] => match h[m]? with
    | some (.lst xs) | some (.tup xs) => match strsOf xs with
      | some ss => if (ss.map (·.length)).sum + ss.length * a.length ≤ BIG then .ok (.str (Txt.join a ss)) h else .bad
      | none => .bad
    | _ => .bad
  | _, _ => .bad
def rJoin (K : PySem.W.Frag) : V → List V → Hp → VK → Prop := fun x xs H Q => ∃ a p, ∃ ys : List Str, x = .str a ∧ xs = [.ref p] ∧ (SqL K H p (ys.map V.str) ∨ SqT K H p (ys.map V.str)) ∧
      (ys.map (·.length)).sum + ys.length * a.length ≤ 16777216 ∧ Q (.str (Txt.join a ys)) H
theorem ms_join : MthS S joinV (rJoin S.K) := by
  intro ρ h H a x as xs W τ Q m ra rs o
  unfold joinV at o
  split at o
  · cases ra
    obtain ⟨y, rfl, ry⟩ := one_rel rs
    obtain ⟨p, e1, rfl⟩ := ry
    split at o
    · rename_i ys q
      obtain ⟨vs, g, r⟩ := m.lst e1 q
      split at o
      · rename_i ss qs
        split at o
        · rename_i hz
          refine ⟨_, p, ss, rfl, rfl, .inl (.of ?_), hz, o ρ _ _ .refl m rfl⟩
          rw [g, strsOf_rel r qs]
        · exact o.elim
      · exact o.elim
    · rename_i ys q
      obtain ⟨vs, g, r⟩ := m.tup e1 q
      split at o
      · rename_i ss qs
        split at o
        · rename_i hz
          refine ⟨_, p, ss, rfl, rfl, .inr (.of ?_), hz, o ρ _ _ .refl m rfl⟩
          rw [g, strsOf_rel r qs]
        · exact o.elim
      · exact o.elim
    · exact o.elim
  · exact o.elim
def splitV (a : Va) (as : List Va) (h : Hh) : RE Va := match a, as with
  | .str a, [.str b] => if (b.length == 0) = false ∧ a.length + 2 ≤ BIG then alloc (.lst ((Txt.split a b).map .str)) h else .bad
  | _, _ => .bad
def rSplit : V → List V → Hp → VK → Prop := fun x xs H Q => ∃ a b, x = .str a ∧ xs = [.str b] ∧ (b.length == 0) = false ∧ a.length + 2 ≤ sizeLine ∧ rNewStrs (Txt.split a b) H Q
theorem strs_rel {ρ : List Addr} : ∀ ss : List Str, RVs S ρ (ss.map .str) (ss.map V.str)
  | [] => .nil
  | _ :: r => .cons rfl (strs_rel r)
theorem ms_split : MthS S splitV rSplit := by
  intro ρ h H a x as xs W τ Q m ra rs o
  unfold splitV at o
  split at o
  · cases ra
    obtain ⟨y, rfl, ry⟩ := one_rel rs
    cases ry
    split at o
    · rename_i hz
      exact ⟨_, _, rfl, rfl, hz.1, by rw [← big_eq]; exact hz.2, out_alloc (o := .lst ((Txt.split _ _).map .str)) m ⟨_, rfl, strs_rel _⟩ o⟩
    · exact o.elim
  · exact o.elim

/-! ### all of them -/
def mtK : Mt → Kd → Va → List Va → Hh → RE Va
  | .append, .l => appendV
  | .extend, .l => extendV
  | .pop, .l => popV
  | .index, .l => indexV
  | .count, .l => countV
  | .insert, .l => insertV
  | .clear, .l => clearV
  | .get, .d => getV
  | .join, .s => joinV
  | .split, .s => splitV
  | .index, .s => sindexV
  | _, _ => fun _ _ _ => .bad
def rMt (K : PySem.W.Frag) : Mt → Kd → V → List V → Hp → VK → Prop
  | .append, .l => rAppend
  | .extend, .l => rExtend
  | .pop, .l => fun x xs H Q => rPop x xs H Q ∨ rPopAt x xs H Q
  | .index, .l => rIndexD K
  | .count, .l => rCntI K
  | .insert, .l => rInsert
  | .clear, .l => rClear
  | .get, .d => rGet
  | .join, .s => rJoin K
  | .split, .s => rSplit
  | .index, .s => rSIndex
  | _, _ => fun _ _ _ _ => False
theorem ms_all (m : Mt) (k : Kd) : MthS S (mtK m k) (rMt S.K m k) := by
  cases m <;> cases k <;> first
    | exact ms_append
    | exact ms_extend
    | exact ms_pop
    | exact ms_index
    | exact ms_sindex
    | exact ms_count
    | exact ms_insert
    | exact ms_clear
    | exact ms_get
    | exact ms_join
    | exact ms_split
    | exact fun _ _ _ _ _ _ _ _ _ _ _ _ _ o => o.elim
def Mt.nm : Mt → Str
  | .append => "append" | .extend => "extend" | .pop => "pop" | .index => "index" | .count => "count" | .get => "get" | .insert => "insert" | .clear => "clear" | .update => "update" | .join => "join" | .split => "split"
def mtOk : Mt → Kd → Bool
  | .append, .l | .extend, .l | .pop, .l | .index, .l | .count, .l | .insert, .l | .clear, .l | .get, .d | .join, .s | .split, .s | .index, .s => true
  | _, _ => false
section
variable {X : Cx} {o e : Expr} {es : List Expr} {to : TE} {t : TA} {apos cpos : Pos}
/-- o.m(e, ..): the rule, kind by kind -/
theorem pe_mth (hu : X.A.units + 70 < cLine) (m : Mt) (k : Kd) (ok : mtOk m k = true) (ho : PE X o to) (ha : PA X (e :: es) t)
    (hbase : attributeBase o m.nm X.env (eval o X.env) = eval o X.env)
    (hfew : ((backTo cpos (starEach (e :: es) X.env)).all (fun x => !x.1) && (backToKw cpos (keywordEach [] X.env)).all (fun x => x.1.isSome)
      && decide ((e :: es).length + ([] : List Keyword).length + (if ([] : List Keyword).isEmpty then 0 else 1) < 30)) = true)
    (hline : (apos.endLine == cpos.line) = true) (hs : starEach (e :: es) X.env = (false, eval e X.env) :: starEach es X.env) (hplain : (backTo cpos (starEach es X.env)).any (·.1) = false) :
    PE X (.Call (.Attribute o m.nm apos) (e :: es) [] cpos) (tBM X.K k.T (rMt X.K m k) to t) := by
  cases m <;> cases k <;> first
    | (cases ok; done)
    | exact pe_bm PySem.F.plainAttrs_list PySem.F.slot_list_append PySem.F.type_list_append mt_append ho ha hbase hfew hline hs hplain
    | exact pe_bm PySem.F.plainAttrs_list PySem.F.slot_list_extend PySem.F.type_list_extend mt_extend ho ha hbase hfew hline hs hplain
    | exact pe_bm PySem.F.plainAttrs_list PySem.F.slot_list_pop PySem.F.type_list_pop (MtR.or mt_pop mt_popAt) ho ha hbase hfew hline hs hplain
    | exact pe_bm PySem.F.plainAttrs_list PySem.F.slot_list_count PySem.F.type_list_count mt_lcount ho ha hbase hfew hline hs hplain
    | exact pe_bm PySem.F.plainAttrs_list PySem.F.slot_list_insert PySem.F.type_list_insert mt_insert ho ha hbase hfew hline hs hplain
    | exact pe_bm PySem.F.plainAttrs_list PySem.F.slot_list_clear PySem.F.type_list_clear mt_clear ho ha hbase hfew hline hs hplain
    | exact pe_bm PySem.F.plainAttrs_dict PySem.F.slot_dict_get PySem.F.type_dict_get (mt_get (by omega)) ho ha hbase hfew hline hs hplain
    | exact pe_bm PySem.F.plainAttrs_str PySem.F.slot_str_join PySem.F.type_str_join mt_join ho ha hbase hfew hline hs hplain
    | exact pe_bm PySem.F.plainAttrs_str PySem.F.slot_str_split PySem.F.type_str_split mt_split ho ha hbase hfew hline hs hplain
    | exact pe_bm PySem.F.plainAttrs_list PySem.F.slot_list_index PySem.F.type_list_index (mt_indexD (by omega)) ho ha hbase hfew hline hs hplain
    | exact pe_bm PySem.F.plainAttrs_str PySem.F.slot_str_index PySem.F.type_str_index mt_sindex ho ha hbase hfew hline hs hplain
/-- o.m() -/
theorem pe_mth0 (m : Mt) (k : Kd) (ok : mtOk m k = true) (ok0 : m = .pop ∨ m = .clear) (ho : PE X o to)
    (hbase : attributeBase o m.nm X.env (eval o X.env) = eval o X.env) (hline : (apos.endLine == cpos.line) = true) :
    PE X (.Call (.Attribute o m.nm apos) [] [] cpos) (tBM0 X.K k.T (rMt X.K m k) to) := by
  rcases ok0 with rfl | rfl <;> cases k <;> first
    | (cases ok; done)
    | exact pe_bm0 PySem.F.plainAttrs_list PySem.F.slot_list_pop PySem.F.type_list_pop (MtR.or mt_pop mt_popAt) ho hbase hline
    | exact pe_bm0 PySem.F.plainAttrs_list PySem.F.slot_list_clear PySem.F.type_list_clear mt_clear ho hbase hline
end
end HA

namespace HA
open PySem PySem.Spec PyProof.Rows L2
variable {S : Fx}

/-! ### the built-ins, all of them -/
inductive Bi where
  | len | abs | int | tuple | list | sum | any | all | min | max | sorted | repr | str | dict
  deriving DecidableEq
def biF (ns : List Int) : Bi → List Va → Hh → RE Va
  | .len => lenV
  | .abs => absV
  | .int => intV
  | .tuple => tupleV
  | .list => listV ns
  | .sum => sumV
  | .any => anyV
  | .all => allV
  | .min => mmV false
  | .max => mmV true
  | .sorted => sortedV
  | .repr => reprV
  | .str => strV
  | .dict => dictV
def rBi (K : PySem.W.Frag) : Bi → List V → Hp → VK → Prop
  | .len => rLen K
  | .abs => fun xs H Q => ∃ i, xs = [.int i] ∧ Q (.int (if i < 0 then -i else i)) H
  | .int => fun xs H Q => (∃ i, xs = [.int i] ∧ Q (.int i) H) ∨ ∃ k, xs = [.bl k] ∧ Q (.int (if k then 1 else 0)) H
  | .tuple => fun xs H Q => ∃ p ys, xs = [.ref p] ∧ ((SqL K H p ys ∧ ∀ l, H l = none → Q (.ref l) (upd H l (.tup ys))) ∨ (SqT K H p ys ∧ Q (.ref p) H))
  | .list => rList K
  | .sum => rSum K
  | .any => rAny K
  | .all => rAll K
  | .min => fun xs H Q => rMm2 false xs H Q ∨ rMm K false xs H Q
  | .max => fun xs H Q => rMm2 true xs H Q ∨ rMm K true xs H Q
  | .sorted => fun xs H Q => rSortD K xs H Q ∨ rSortK xs H Q
  | .repr => rRepr K
  | .str => fun xs H Q => ∃ i, xs = [.int i] ∧ i.natAbs.log2 < 1920 ∧ Q (.str (toString i)) H
  | .dict => rDictP K
theorem cs_bi (b : Bi) : CallS S (biF S.ns b) (rBi S.K b) := by
  cases b
  · exact cs_len
  · exact cs_abs
  · exact cs_int
  · exact cs_tuple
  · exact cs_list
  · exact cs_sum
  · exact cs_any
  · exact cs_all
  · exact cs_mm false
  · exact cs_mm true
  · exact cs_sorted
  · exact cs_repr
  · exact cs_str
  · exact cs_dict
def bName : Bi → Str
  | .len => "len" | .abs => "abs" | .int => "int" | .tuple => "tuple" | .list => "list" | .sum => "sum" | .any => "any" | .all => "all" | .min => "min" | .max => "max" | .sorted => "sorted" | .repr => "repr" | .str => "str" | .dict => "dict"
section
variable {X : Cx} {e : Expr} {es : List Expr} {t : TA} {p pos : Pos}
theorem pe_bi (b : Bi) (hcalm : X.calm = true) (hgd : X.A.guards = some []) (hu : X.A.units + 300 < cLine) (hg : Gl X (bName b)) (hm : X.mg (bName b) = none) (ha : PA X (e :: es) t)
    (he : starEach (e :: es) X.env = (false, eval e X.env) :: starEach es X.env) (hpl : (backTo pos (starEach es X.env)).any (·.1) = false) : PE X (.Call (.Name (bName b) p) (e :: es) [] pos) (tCB (rBi X.K b) t) := by
  cases b
  · exact pe_callB cr_len hg hm (by decide +kernel) ha (by decide) (by decide) he hpl
  · exact pe_callB call_abs hg hm (by decide +kernel) ha (by decide) (by decide) he hpl
  · exact pe_callTy call_int1 hg hm (by decide +kernel) ha (by decide) (by decide) he hpl
  · exact pe_callTy call_tuple_of hg hm (by decide +kernel) ha (by decide) (by decide) he hpl
  · exact pe_callTy (cr_list hcalm) hg hm (by decide +kernel) ha (by decide) (by decide) he hpl
  · exact pe_callB (cr_sum hcalm) hg hm (by decide +kernel) ha (by decide) (by decide) he hpl
  · exact pe_callB (cr_any hcalm) hg hm (by decide +kernel) ha (by decide) (by decide) he hpl
  · exact pe_callB (cr_all hcalm) hg hm (by decide +kernel) ha (by decide) (by decide) he hpl
  · exact pe_callB (CallR.or (cr_mm2 hcalm false) (cr_mm hcalm (by omega) false)) hg hm (by decide +kernel) ha (by decide) (by decide) he hpl
  · exact pe_callB (CallR.or (cr_mm2 hcalm true) (cr_mm hcalm (by omega) true)) hg hm (by decide +kernel) ha (by decide) (by decide) he hpl
  · exact pe_callB (CallR.or (cr_sortD (by omega)) (call_sortedDI hcalm)) hg hm (by decide +kernel) ha (by decide) (by decide) he hpl
  · exact pe_callB (cr_repr hgd (by omega)) hg hm (by decide +kernel) ha (by decide) (by decide) he hpl
  · exact pe_callTy call_str_int hg hm (by decide +kernel) ha (by decide) (by decide) he hpl
  · exact pe_callTy (call_dictP hcalm) hg hm (by decide +kernel) ha (by decide) (by decide) he hpl
end
end HA

namespace HA
open PySem PySem.Spec PyProof.Rows L2

/-! ### the small language -/
inductive Bo where
  | add | sub | mul | fdiv | mod | pow
  deriving DecidableEq
inductive Co where
  | eq | ne | ord (o : Oo) | in_ (ng : Bool)
  deriving DecidableEq
inductive Ty where
  | list | tuple | dict | int | bool | str | cls (c : Nat)
  deriving DecidableEq
/-- targets -/
inductive Tg where
  | nm (i : Nat)
  | tp (a : Tg) (r : Tg)   -- a, then more of the same tuple
  | te                     -- the tuple's end
  deriving DecidableEq
def tgSlots : Tg → List Nat
  | .nm i => [i]
  | .tp a r => tgSlots a ++ tgSlots r
  | .te => []
mutual
inductive E where
  | cst (v : Va)
  | var (i : Nat)
  | bin (o : Bo) (a b : E)
  | neg (a : E)
  | not (a : E)
  | and (a b : E)
  | or (a b : E)
  | cmp (c : Co) (a b : E)
  | chn (c d : Co) (a b e : E)
  | isN (ng : Bool) (a : E)
  | ife (t a b : E)
  | inst (a : E) (ts : List Ty)
  | call (g : Nat) (as : Es)
  | callk (g : Nat) (as ks : Es) (pm : List Nat)
  | bi (b : Bi) (as : Es)
  | mth (m : Mt) (o : E) (as : Es)
  | idx (a i : E)
  | slc (a : E) (lo hi : Es)
  | rev (a : E)
  | lst (as : Es)
  | tup (as : Es)
  | dnew
  | items (a : E)
  | lrng (as : Es)
  | comp (it : It) (own : List Nat) (tg : Tg) (cs : Es) (e : E)
inductive Es where
  | nil
  | cons (e : E) (r : Es)
  | star (e : E) (r : Es)
inductive It where
  | val (e : E)
  | rng (as : Es)
  | zip (a b : E)
  | enum (a : E)
end
/-- the places of a tuple that is assigned -/
inductive At where
  | tg (t : Tg)
  | sub (o i : E)
mutual
inductive Sm where
  | asg (tg : Tg) (e : E)
  | asgs (ts : List At) (e : E)
  | par (is : List Nat) (es : Es)
  | set (o i e : E)
  | exp (e : E)
  | ret (e : E)
  | ife (c : E) (a b : Ss)
  | for_ (it : It) (tg : Tg) (b : Ss)
  | whl (c : E) (b : Ss)
  | brk
  | cont
  | pass
  | never
inductive Ss where
  | nil
  | cons (s : Sm) (r : Ss)
end

/-! ### its meaning -/
/-- the fixed things of an evaluation: the script's ints, what calls give -/
structure Cf where
  ns : List Int
  call : Nat → List Va → Hh → RE Va
/-- what a loop yields -/
inductive Ya where
  | one (v : Va)
  | two (v w : Va)
/-- what a loop walks: the live lists with what stood in them, what is yielded -/
structure Itr where
  src : List (Nat × Ob)
  ys : List Ya
def live (src : List (Nat × Ob)) (h : Hh) : Bool := src.all fun p => decide (h[p.1]? = some p.2)

def binV : Bo → Va → Va → Hh → RE Va
  | .add => addV | .sub => subV | .mul => mulV | .fdiv => fdivV | .mod => modV | .pow => powV
def cmpV : Co → Va → Va → Hh → RE Va
  | .eq => eqD false
  | .ne => eqD true
  | .ord o => ordV o
  | .in_ ng => inV ng
/-- the truth of a value, as a test -/
def tst (r : RE Va) : RE Bool := r.bind fun a h => liftO (truV a h) h
/-- the class of a value, as isinstance asks -/
def tyOf (a : Va) (h : Hh) : Option Ty := match a with
  | .bl _ => some .bool
  | .int _ => some .int
  | .str _ => some .str
  | .ref m => match h[m]? with
    | some (.lst _) => some .list
    | some (.tup _) => some .tuple
    | some (.dK _) => some .dict
    | some (.dT _) => some .dict
    | _ => none
  | _ => none
def isTy (a : Va) (h : Hh) (t : Ty) : Bool := match tyOf a h with
  | some k => decide (k = t) || (decide (k = .bool) && decide (t = .int))
  | none => false
/-- what isinstance can be asked of: no instance of an own class -/
def tyOk (a : Va) (h : Hh) : Bool := match a with
  | .non => true
  | .scr => false
  | .ref m => match h[m]? with
    | some (.xd _) => false
    | some _ => true
    | none => false
  | _ => true
def instV (ts : List Ty) (a : Va) (h : Hh) : RE Va := if tyOk a h = true then .ok (.bl (ts.any (isTy a h))) h else .bad

def keyVa : Key → Va
  | .inl i => .int i
  | .inr x => .str x
/-- what a target of several places takes apart -/
def spread (h : Hh) (t : Tg) (v : Va) : Option (List Va) := match t with
  | .nm _ => some [v]
  | _ => match v with
    | .ref m => match h[m]? with
      | some (.tup xs) => some xs
      | _ => none
    | _ => none
/-- stores: a name's slot; the places of a tuple, from the left -/
def tgA (h : Hh) : Tg → List Va → Sl → Option Sl
  | .nm i, [v], σ => some (σ.set i (some v))
  | .te, [], σ => some σ
  | .tp a r, x :: xs, σ => match spread h a x with
    | some ys => match tgA h a ys σ with
      | some σ' => tgA h r xs σ'
      | none => none
    | none => none
  | _, _, _ => none
def tgY (h : Hh) (t : Tg) (y : Ya) (σ : Sl) : Option Sl := match y with
  | .one v => match spread h t v with
    | some xs => tgA h t xs σ
    | none => none
  | .two v w => match t with
    | .nm _ => none
    | t => tgA h t [v, w] σ
def wipeA (σ : Sl) : List Nat → Sl
  | [] => σ
  | v :: vs => (wipeA σ vs).set v none
/-- the lists that stand behind two values, for zip; one, for enumerate, for a for -/
def seqOf (h : Hh) (v : Va) : Option (List (Nat × Ob) × List Va) := match v with
  | .ref m => match h[m]? with
    | some (.lst xs) => some ([(m, .lst xs)], xs)
    | some (.tup xs) => some ([(m, .tup xs)], xs)
    | _ => none
  | _ => none
def sameK : List (Nat × Ob) → List (Nat × Ob) → Bool
  | [(_, .lst _)], [(_, .lst _)] => true
  | [(_, .tup _)], [(_, .tup _)] => true
  | _, _ => false
def isLs : List (Nat × Ob) → Bool
  | [(_, .lst _)] => true
  | _ => false
def enumY : Nat → List Va → List Ya
  | _, [] => []
  | n, x :: xs => .two (.int n) x :: enumY (n + 1) xs
def rngY : List Int → List Ya := List.map fun i => .one (.int i)
def rngL (a b : Int) : List Int := (List.range (b - a).toNat).map fun (i : Nat) => a + i
def rngV (as : List Va) : Option (Int × Int) := match as with
  | [.int j] => if -4611686018427387904 ≤ j ∧ j < 4611686018427387904 then some (0, j) else none
  | [.int i, .int j] => if -4611686018427387904 ≤ i ∧ i < 4611686018427387904 ∧ -4611686018427387904 ≤ j ∧ j < 4611686018427387904 then some (i, j) else none
  | _ => none
/-- list(d.items()) -/
def itemsV (a : Va) (h : Hh) : RE Va := match a with
  | .ref m => match h[m]? with
    | some (.dK kvs) => .ok (.ref (h.length + kvs.length)) (h ++ kvs.map (fun p => .tup [keyVa p.1, p.2]) ++ [.lst ((List.range kvs.length).map fun i => .ref (h.length + i))])
    | _ => .bad
  | _ => .bad
/-- the loop of a comprehension: the list at D is filled -/
def compGo (D : Nat) (src : List (Nat × Ob)) (body : Ya → Hh → RE (Option Va)) : List Ya → Hh → RE Va
  | [], h => if live src h = true then .ok (.ref D) h else .bad
  | y :: ys, h => if live src h = true then
      (body y h).bind fun r h1 => match r with
        | none => compGo D src body ys h1
        | some v => match h1[D]? with
          | some (.lst acc) => if acc.length < BIG then compGo D src body ys (h1.set D (.lst (acc ++ [v]))) else .bad
          | _ => .bad
    else .bad
def noExc {α : Type} : RE α → RE α
  | .exc _ _ _ => .bad
  | r => r
/-- what a comprehension does at a turn -/
def compBody (own : List Nat) (tg : Tg) (cnd : Sl → Hh → RE Bool) (elt : Sl → Hh → RE Va) (σ : Sl) (y : Ya) (h : Hh) : RE (Option Va) := match tgY h tg y (wipeA σ own) with
  | some σ1 => noExc ((cnd σ1 h).bind fun b h1 => if b = true then (elt σ1 h1).bind fun v h2 => .ok (some v) h2 else .ok none h1)
  | none => .bad
def mapO {α β : Type} (f : α → Option β) : List α → Option (List β)
  | [] => some []
  | x :: r => match f x with
    | some y => match mapO f r with
      | some ys => some (y :: ys)
      | none => none
    | none => none
def permA {α : Type} (as : List α) (pm : List Nat) : Option (List α) := mapO (fun i => as[i]?) pm
def oneInt (vs : List Va) : Option (Option Int) := match vs with
  | [] => some none
  | [.int i] => some (some i)
  | _ => none

mutual
def ev (C : Cf) : E → Sl → Hh → RE Va
  | .cst v, _, h => .ok v h
  | .var i, σ, h => match σ[i]? with
    | some (some v) => .ok v h
    | _ => .bad
  | .bin o a b, σ, h => (ev C a σ h).bind fun x h1 => (ev C b σ h1).bind fun y h2 => binV o x y h2
  | .neg a, σ, h => (ev C a σ h).bind negV
  | .not a, σ, h => (tst (ev C a σ h)).bind fun b h1 => .ok (.bl (!b)) h1
  | .and a b, σ, h => (ev C a σ h).bind fun x h1 => match truV x h1 with
    | some true => ev C b σ h1
    | some false => .ok x h1
    | none => .bad
  | .or a b, σ, h => (ev C a σ h).bind fun x h1 => match truV x h1 with
    | some true => .ok x h1
    | some false => ev C b σ h1
    | none => .bad
  | .cmp c a b, σ, h => (ev C a σ h).bind fun x h1 => (ev C b σ h1).bind fun y h2 => cmpV c x y h2
  | .chn c d a b e, σ, h => (ev C a σ h).bind fun x h1 => (ev C b σ h1).bind fun y h2 => (cmpV c x y h2).bind fun r h3 => match r with
    | .bl true => (ev C e σ h3).bind fun z h4 => cmpV d y z h4
    | .bl false => .ok (.bl false) h3
    | _ => .bad
  | .isN ng a, σ, h => (ev C a σ h).bind fun x h1 => .ok (.bl (ng ^^ decide (x = .non))) h1
  | .ife t a b, σ, h => (tst (ev C t σ h)).bind fun k h1 => if k = true then ev C a σ h1 else ev C b σ h1
  | .inst a ts, σ, h => (ev C a σ h).bind (instV ts)
  | .call g as, σ, h => (evs C as σ h).bind fun vs h1 => C.call g vs h1
  | .callk g as ks pm, σ, h => (evs C as σ h).bind fun vs h1 => (evs C ks σ h1).bind fun ws h2 => match permA (vs ++ ws) pm with
    | some us => C.call g us h2
    | none => .bad
  | .bi b as, σ, h => (evs C as σ h).bind (biF C.ns b)
  | .mth m o as, σ, h => (ev C o σ h).bind fun x h1 => match kdOf x h1 with
    | some k => if mtOk m k = true then (evs C as σ h1).bind fun vs h2 => mtK m k x vs h2 else .bad
    | none => .bad
  | .idx a i, σ, h => (ev C a σ h).bind fun x h1 => (ev C i σ h1).bind fun y h2 => idxV x y h2
  | .slc a lo hi, σ, h => (ev C a σ h).bind fun x h1 => (evs C lo σ h1).bind fun l h2 => match oneInt l with
    | some l => (evs C hi σ h2).bind fun u h3 => match oneInt u with
      | some u => slcV x l u h3
      | none => .bad
    | none => .bad
  | .rev a, σ, h => (ev C a σ h).bind revV
  | .lst as, σ, h => (evs C as σ h).bind fun vs h1 => if vs.length ≤ BIG then alloc (.lst vs) h1 else .bad
  | .tup as, σ, h => (evs C as σ h).bind fun vs h1 => if vs.length ≤ BIG then alloc (.tup vs) h1 else .bad
  | .dnew, _, h => alloc (.dK []) h
  | .items a, σ, h => (ev C a σ h).bind itemsV
  | .lrng as, σ, h => (evs C as σ h).bind fun vs h1 => match rngV vs with
    | some (i, j) => if (j - i).toNat ≤ BIG then alloc (.lst ((rngL i j).map .int)) h1 else .bad
    | none => .bad
  | .comp it own tg cs e, σ, h => (evIt C it σ h).bind fun w h1 =>
      compGo h1.length w.src (compBody own tg (match cs with
        | .nil => fun _ h => .ok true h
        | .cons c _ => fun σ h => tst (ev C c σ h)
        | .star _ _ => fun _ _ => .bad) (ev C e) σ) w.ys (h1 ++ [.lst []])
def evs (C : Cf) : Es → Sl → Hh → RE (List Va)
  | .nil, _, h => .ok [] h
  | .cons e r, σ, h => (ev C e σ h).bind fun x h1 => (evs C r σ h1).bind fun xs h2 => .ok (x :: xs) h2
  | .star e r, σ, h => (ev C e σ h).bind fun x h1 => match seqOf h1 x with
    | some (_, ys) => (evs C r σ h1).bind fun xs h2 => .ok (ys ++ xs) h2
    | none => .bad
def evIt (C : Cf) : It → Sl → Hh → RE Itr
  | .val e, σ, h => (ev C e σ h).bind fun x h1 => match seqOf h1 x with
    | some (s, xs) => .ok ⟨s, xs.map .one⟩ h1
    | none => .bad
  | .rng as, σ, h => (evs C as σ h).bind fun vs h1 => match rngV vs with
    | some (i, j) => .ok ⟨[], rngY (rngL i j)⟩ h1
    | none => .bad
  | .zip a b, σ, h => (ev C a σ h).bind fun x h1 => (ev C b σ h1).bind fun y h2 => match seqOf h2 x, seqOf h2 y with
    | some (s, xs), some (t, ys) => if sameK s t = true then .ok ⟨s ++ t, (xs.zip ys).map fun p => .two p.1 p.2⟩ h2 else .bad
    | _, _ => .bad
  | .enum a, σ, h => (ev C a σ h).bind fun x h1 => match seqOf h1 x with
    | some (s, xs) => .ok ⟨s, enumY 0 xs⟩ h1
    | none => .bad
end

/-! ### statements -/
inductive RX where
  | nx (σ : Sl) (h : Hh)
  | rt (v : Va) (h : Hh)
  | bk (σ : Sl) (h : Hh)
  | ct (σ : Sl) (h : Hh)
  | exc (c d : Nat) (σ : Sl) (h : Hh)
  | bad
def RX.seq (r : RX) (k : Sl → Hh → RX) : RX := match r with
  | .nx σ h => k σ h
  | r => r
def ofE (σ : Sl) (r : RE Va) (k : Va → Hh → RX) : RX := match r with
  | .ok v h => k v h
  | .exc c d h => .exc c d σ h
  | .bad => .bad
def ofE' {α : Type} (σ : Sl) (r : RE α) (k : α → Hh → RX) : RX := match r with
  | .ok v h => k v h
  | .exc c d h => .exc c d σ h
  | .bad => .bad
def setAll : List Nat → List Va → Sl → Option Sl
  | [], [], σ => some σ
  | i :: is, v :: vs, σ => setAll is vs (σ.set i (some v))
  | _, _, _ => none
def nxO (o : Option Sl) (h : Hh) : RX := match o with
  | some σ => .nx σ h
  | none => .bad
/-- a turn of a loop went on, or ended it -/
def turn (r : RX) (go : Sl → Hh → RX) : RX := match r with
  | .nx σ h => go σ h
  | .ct σ h => go σ h
  | .bk σ h => .nx σ h
  | r => r
/-- several places, from the left -/
def asgGo (f : E → Sl → Hh → RE Va) : List At → List Va → Sl → Hh → RX
  | [], [], σ, h => .nx σ h
  | .tg t :: r, x :: xs, σ, h => match tgY h t (.one x) σ with
    | some σ1 => asgGo f r xs σ1 h
    | none => .bad
  | .sub o i :: r, x :: xs, σ, h => ofE' σ (f o σ h) fun ov h1 => ofE' σ (f i σ h1) fun iv h2 => match setV ov iv x h2 with
    | some h3 => asgGo f r xs σ h3
    | none => .bad
  | _, _, _, _ => .bad
def tupOf (v : Va) (h : Hh) : Option (List Va) := match v with
  | .ref m => match h[m]? with
    | some (.tup xs) => some xs
    | _ => none
  | _ => none
def forGo (src : List (Nat × Ob)) (tg : Tg) (body : Sl → Hh → RX) : List Ya → Sl → Hh → RX
  | [], σ, h => if live src h = true then .nx σ h else .bad
  | y :: ys, σ, h => if live src h = true then match tgY h tg y σ with
      | some σ1 => turn (body σ1 h) (forGo src tg body ys)
      | none => .bad
    else .bad
def whlGo (t : Sl → Hh → RE Bool) (body : Sl → Hh → RX) : Nat → Sl → Hh → RX
  | 0, _, _ => .bad
  | n + 1, σ, h => ofE' σ (t σ h) fun k h1 => if k = true then turn (body σ h1) (whlGo t body n) else .nx σ h1
abbrev WN : Nat := 1000000
mutual
def ex (C : Cf) : Sm → Sl → Hh → RX
  | .asg tg e, σ, h => ofE' σ (ev C e σ h) fun v h1 => nxO (tgY h1 tg (.one v) σ) h1
  | .asgs ts e, σ, h => ofE' σ (ev C e σ h) fun v h1 => match tupOf v h1 with
    | some xs => if xs.length = ts.length then asgGo (ev C) ts xs σ h1 else .bad
    | none => .bad
  | .par is es, σ, h => ofE' σ (evs C es σ h) fun vs h1 => nxO (setAll is vs σ) h1
  | .set o i e, σ, h => ofE' σ (ev C e σ h) fun v h1 => ofE' σ (ev C o σ h1) fun x h2 => ofE' σ (ev C i σ h2) fun y h3 => match setV x y v h3 with
    | some h4 => .nx σ h4
    | none => .bad
  | .exp e, σ, h => ofE' σ (ev C e σ h) fun _ h1 => .nx σ h1
  | .ret e, σ, h => ofE' σ (ev C e σ h) fun v h1 => .rt v h1
  | .ife c a b, σ, h => ofE' σ (tst (ev C c σ h)) fun k h1 => if k = true then exs C a σ h1 else exs C b σ h1
  | .for_ it tg b, σ, h => ofE' σ (evIt C it σ h) fun w h1 => forGo w.src tg (exs C b) w.ys σ h1
  | .whl c b, σ, h => whlGo (fun σ h => tst (ev C c σ h)) (exs C b) WN σ h
  | .brk, σ, h => .bk σ h
  | .cont, σ, h => .ct σ h
  | .pass, σ, h => .nx σ h
  | .never, _, _ => .bad
def exs (C : Cf) : Ss → Sl → Hh → RX
  | .nil, σ, h => .nx σ h
  | .cons s r, σ, h => (ex C s σ h).seq (exs C r)
end
/-- a def: how many slots, parameters, its body -/
structure Df where
  n : Nat
  ps : Nat
  body : Ss
def runDf (C : Cf) (d : Df) (vs : List Va) (h : Hh) : RE Va := if vs.length = d.ps then
    match exs C d.body (vs.map some ++ List.replicate (d.n - vs.length) none) h with
    | .rt v h1 => .ok v h1
    | .nx _ h1 => .ok .non h1
    | .exc c e _ h1 => .exc c e h1
    | _ => .bad
  else .bad
/-- calls, k deep -/
def callN (ns : List Int) (T : List Df) : Nat → Nat → List Va → Hh → RE Va
  | 0, _, _, _ => .bad
  | k + 1, g, vs, h => match T[g]? with
    | some d => runDf ⟨ns, callN ns T k⟩ d vs h
    | none => .bad
end HA

namespace HA
open PySem PySem.Spec PyProof.Rows L2

/-! ### from the text to the small language -/
inductive Gd where
  | df (g : Nat) (ps : List Str)
  | cls (c : Nat)
  deriving DecidableEq
structure Cc where
  N : List Str
  sc : Scope
  blk : Option Scope
  G : List (Str × Gd)
  KW : List (Str × Nat × List Str)
def slotOf : List Str → Str → Option Nat
  | [], _ => none
  | y :: r, x => if y = x then some 0 else match slotOf r x with
    | some i => some (i + 1)
    | none => none
theorem slotOf_ok : ∀ {N : List Str} {x : Str} {i : Nat}, slotOf N x = some i → N[i]? = some x
  | [], _, _, e => by cases e
  | y :: r, x, i, e => by
    unfold slotOf at e
    split at e
    · rename_i h; cases e; subst h; rfl
    · split at e
      · rename_i j h
        cases e
        simpa using slotOf_ok h
      · cases e
def Cc.fn (c : Cc) (x : Str) : Bool := match c.blk with
  | none => true
  | some s => match s.names.lookup x with
    | some .cell => true
    | _ => false
/-- a name that is read -/
def cVar (c : Cc) (x : Str) : Option Nat := if (x == ("__debug__" : Str)) = true ∨ (x == ("__classdict__" : Str)) = true then none else match c.sc.names.lookup x with
  | some .local | some .cell | some .free => slotOf c.N x
  | _ => none
/-- a name that is stored -/
def cTgt (c : Cc) (x : Str) : Option Nat := match c.sc.names.lookup x with
  | some .local => slotOf c.N x
  | some .cell => if c.fn x = true then slotOf c.N x else none
  | _ => none
def isGl (c : Cc) (x : Str) : Bool := if (x == ("__debug__" : Str)) = true ∨ (x == ("__name__" : Str)) = true then false else match c.sc.names.lookup x with
  | some .globalImplicit => true
  | _ => false
/-- a built-in's name -/
def isB (c : Cc) (x : Str) : Bool := isGl c x && (c.G.lookup x).isNone
def biAll : List Bi := [.len, .abs, .int, .tuple, .list, .sum, .any, .all, .min, .max, .sorted, .repr, .str, .dict]
def biOf (c : Cc) (x : Str) : Option Bi := if isB c x = true then biAll.find? fun b => decide (bName b = x) else none
def tyName : Ty → Str
  | .list => "list" | .tuple => "tuple" | .dict => "dict" | .int => "int" | .bool => "bool" | .str => "str" | .cls _ => "?"
def tyAll : List Ty := [.list, .tuple, .dict, .int, .bool, .str]
def cTy (c : Cc) (e : Expr) : Option Ty := match e with
  | .Name x _ => if isB c x = true then tyAll.find? fun t => decide (tyName t = x) else none
  | _ => none
def cTys (c : Cc) (e : Expr) : Option (List Ty) := match e with
  | .Tuple es _ _ => mapO (cTy c) es
  | e => match cTy c e with
    | some t => some [t]
    | none => none
def cBo : Operator → Option Bo
  | .Add => some .add | .Sub => some .sub | .Mult => some .mul | .FloorDiv => some .fdiv | .Mod => some .mod | .Pow => some .pow
  | _ => none
def cCo : CmpOp → Option Co
  | .Eq => some .eq | .NotEq => some .ne | .Lt => some (.ord .lt) | .LtE => some (.ord .le) | .Gt => some (.ord .gt) | .GtE => some (.ord .ge) | .In => some (.in_ false) | .NotIn => some (.in_ true)
  | _ => none
def isSet : Expr → Bool
  | .Set _ _ _ => true
  | _ => false
def isNone : Expr → Bool
  | .Constant .none _ _ => true
  | _ => false
def isStar : Expr → Bool
  | .Starred _ _ => true
  | _ => false
def isSlice : Expr → Bool
  | .Slice _ _ _ _ => true
  | _ => false
def isComp : Expr → Bool
  | .ListComp _ _ _ _ => true
  | .SetComp _ _ _ _ => true
  | .DictComp _ _ _ _ _ => true
  | _ => false
/-- no super() -/
def baseOk : Expr → Bool
  | .Call (.Name x _) [] [] _ => false
  | _ => true
/-- several expressions, stars among them -/
def cEs (f : Expr → Option E) : List Expr → Option Es
  | [] => some .nil
  | .Starred e _ :: r => match f e, cEs f r with
    | some x, some xs => some (.star x xs)
    | _, _ => none
  | e :: r => match f e, cEs f r with
    | some x, some xs => some (.cons x xs)
    | _, _ => none
/-- without stars -/
def cAs (f : Expr → Option E) : List Expr → Option Es
  | [] => some .nil
  | e :: r => if isStar e = true then none else match f e, cAs f r with
    | some x, some xs => some (.cons x xs)
    | _, _ => none
def cKs (f : Expr → Option E) : List Keyword → Option Es
  | [] => some .nil
  | k :: r => match k.arg with
    | none => none
    | some _ => match f k.value, cKs f r with
      | some x, some xs => some (.cons x xs)
      | _, _ => none
def idxIn : List Str → Str → Option Nat := slotOf
/-- targets -/
def cTg (c : Cc) : Nat → Expr → Option Tg
  | 0, _ => none
  | n + 1, .Name x _ => match cTgt c x with
    | some i => some (.nm i)
    | none => none
  | n + 1, .Tuple es _ _ => go (cTg c n) es
  | _ + 1, _ => none
where
  go (f : Expr → Option Tg) : List Expr → Option Tg
    | [] => some .te
    | e :: r => if isStar e = true then none else match f e, go f r with
      | some a, some b => some (.tp a b)
      | _, _ => none
/-- the names of a comprehension's block that have slots -/
def ownOf (N : List Str) (sc : Scope) : List (Str × Nat) := sc.names.filterMap fun p => match p.2 with
  | .local | .cell => match slotOf N p.1 with
    | some i => some (p.1, i)
    | none => none
  | _ => none
def kwPerm (ps : List Str) (n : Nat) (ks : List Str) : Option (List Nat) :=
  -- the first n parameters by place, the others by name
  mapO (fun (p : Nat × Str) => if p.1 < n then some p.1 else match slotOf ks p.2 with
    | some j => some (n + j)
    | none => none) ((List.range ps.length).zip ps)
def cIt (c : Cc) (f : Expr → Option E) : Expr → Option It := fun e => match e with
  | .Call (.Name x _) as [] _ =>
    if isB c x = true ∧ x = ("range" : Str) then match cAs f as with
      | some es => match as with
        | [_] => some (.rng es)
        | [_, _] => some (.rng es)
        | _ => none
      | none => none
    else if isB c x = true ∧ x = ("zip" : Str) then match as with
      | [a, b] => if isStar a = true ∨ isStar b = true then none else match f a, f b with
        | some u, some v => some (.zip u v)
        | _, _ => none
      | _ => none
    else if isB c x = true ∧ x = ("enumerate" : Str) then match as with
      | [a] => if isStar a = true then none else match f a with
        | some u => some (.enum u)
        | none => none
      | _ => none
    else match f e with
      | some u => some (.val u)
      | none => none
  | e => if isSet e = true then none else match f e with
    | some u => some (.val u)
    | none => none
def isPair (tg : Expr) : Bool := match tg with
  | .Tuple _ _ _ => true
  | _ => false
def itPair : It → Bool
  | .zip _ _ => true
  | .enum _ => true
  | _ => false
def mtAll : List Mt := [.append, .extend, .pop, .index, .count, .get, .insert, .clear, .join, .split]
def mtOf (x : Str) : Option Mt := mtAll.find? fun m => decide (m.nm = x)

def cBool (f : Expr → Option E) (op : BoolOp) : List Expr → Option E
  | [] => none
  | [e] => f e
  | e :: r => match op, f e, cBool f op r with
    | .And, some x, some y => some (.and x y)
    | .Or, some x, some y => some (.or x y)
    | _, _, _ => none
def cPart (f : Expr → Option E) : Option Expr → Option Es
  | none => some .nil
  | some e => match f e with
    | some x => some (.cons x .nil)
    | none => none
def cConst : Const → Option E
  | .none => some (.cst .non)
  | .bool b => some (.cst (.bl b))
  | .int i => some (.cst (.int i))
  | .str x => some (.cst (.str x))
  | _ => none
def cCmp1 (f : Expr → Option E) (a : Expr) (op : CmpOp) (b : Expr) : Option E := if isSet b = true then none else match op with
  | .Is => if isNone b = true then match f a with
      | some x => some (.isN false x)
      | none => none
    else none
  | .IsNot => if isNone b = true then match f a with
      | some x => some (.isN true x)
      | none => none
    else none
  | op => match cCo op, f a, f b with
    | some o, some x, some y => some (.cmp o x y)
    | _, _, _ => none
def cBi (c : Cc) (f : Expr → Option E) (x : Str) (as : List Expr) : Option E := match biOf c x, cAs f as with
  | some b, some es => some (.bi b es)
  | _, _ => none
/-- a call of a name that is no def of ours -/
def cBlt (c : Cc) (f : Expr → Option E) (x : Str) (as : List Expr) : Option E :=
  if x = ("isinstance" : Str) then match as with
    | [a, t] => if isStar a = true then none else match f a, cTys c t with
      | some u, some ts => if isB c x = true ∧ ts.length ≤ 8 then some (.inst u ts) else none
      | _, _ => none
    | _ => none
  else match as with
    | [.Call (.Name y _) bs [] _] => if x = ("list" : Str) ∧ isB c x = true ∧ y = ("range" : Str) ∧ isB c y = true ∧ (bs.length = 1 ∨ bs.length = 2) then match cAs f bs with
        | some es => some (.lrng es)
        | none => none
      else cBi c f x as
    | [.Call (.Attribute o m apos) [] [] cpos] => if x = ("list" : Str) ∧ m = ("items" : Str) ∧ isB c x = true ∧ baseOk o = true ∧ apos.endLine = cpos.line then match f o with
        | some u => some (.items u)
        | none => none
      else cBi c f x as
    | [] => none
    | as => cBi c f x as
def cCall (c : Cc) (f : Expr → Option E) (x : Str) (as : List Expr) (kws : List Keyword) : Option E := if isGl c x = true then match c.G.lookup x with
    | some (.df g ps) => match kws with
      | [] => match cAs f as with
        | some es => if as.length = ps.length then some (.call g es) else none
        | none => none
      | kws => match cAs f as, cKs f kws, kwPerm ps as.length (kws.filterMap (·.arg)) with
        | some es, some ks, some pm => if pm.length = ps.length ∧ (x, as.length, kws.filterMap (·.arg)) ∈ c.KW then some (.callk g es ks pm) else none
        | _, _, _ => none
    | some (.cls _) => none
    | none => match kws with
      | [] => cBlt c f x as
      | _ => none
  else none
def cMth (f : Expr → Option E) (o : Expr) (m : Str) (apos : Pos) (as : List Expr) (cpos : Pos) : Option E := if baseOk o = true ∧ apos.endLine = cpos.line ∧ as.length < 30 then match mtOf m, f o, cAs f as with
    | some m, some u, some es => if as.isEmpty = true ∧ m ≠ .pop ∧ m ≠ .clear then none else some (.mth m u es)
    | _, _, _ => none
  else none
def cSlc (f : Expr → Option E) (a : Expr) (lo hi st : Option Expr) : Option E := match st with
  | none => match f a, cPart f lo, cPart f hi with
    | some x, some l, some h => some (.slc x l h)
    | _, _, _ => none
  | some (.UnaryOp .USub (.Constant (.int i) _ _) _) => if lo.isNone = true ∧ hi.isNone = true ∧ i = 1 then match f a with
      | some x => some (.rev x)
      | none => none
    else none
  | _ => none
/-- a comprehension: f for the parts outside, f' within -/
def cLc (c : Cc) (f f' : Expr → Option E) (n : Nat) (elt tg iter : Expr) (ifs : List Expr) (scope : Scope) : Option E :=
  if blkC c.N c.sc scope (ownOf c.N scope) = true then match cIt c f iter, cTg { c with sc := L2.relS scope c.sc, blk := some scope } n tg, cEs f' ifs, f' elt with
    | some it, some t, some cs, some x => if (itPair it = true → isPair tg = true) ∧ ifs.length ≤ 1 ∧ (ifs.all fun e => !isStar e) = true ∧ (tgSlots t).all (fun i => decide (i ∈ (ownOf c.N scope).map (·.2))) = true then some (.comp it ((ownOf c.N scope).map (·.2)) t cs x) else none
    | _, _, _, _ => none
  else none
def cE (c : Cc) : Nat → Expr → Option E
  | 0, _ => none
  | n + 1, e => match e with
    | .Constant k _ _ => cConst k
    | .Name x _ => match cVar c x with
      | some i => some (.var i)
      | none => none
    | .BinOp a op b _ => match cBo op, cE c n a, cE c n b with
      | some o, some x, some y => some (.bin o x y)
      | _, _, _ => none
    | .UnaryOp op a _ => match op, cE c n a with
      | .USub, some x => some (.neg x)
      | .Not, some x => some (.not x)
      | _, _ => none
    | .BoolOp op vs _ => cBool (cE c n) op vs
    | .Compare a [op] [b] _ => cCmp1 (cE c n) a op b
    | .Compare a [op, op'] [b, d] _ => if isSet b = true ∨ isSet d = true then none else match cCo op, cCo op', cE c n a, cE c n b, cE c n d with
      | some o, some o', some x, some y, some z => some (.chn o o' x y z)
      | _, _, _, _, _ => none
    | .IfExp t a b _ => match cE c n t, cE c n a, cE c n b with
      | some x, some y, some z => some (.ife x y z)
      | _, _, _ => none
    | .Call (.Name x _) as kws _ => cCall c (cE c n) x as kws
    | .Call (.Attribute o m apos) as [] cpos => cMth (cE c n) o m apos as cpos
    | .Dict [] [] _ => some .dnew
    | .Subscript a (.Slice lo hi st _) _ => cSlc (cE c n) a lo hi st
    | .Subscript a b _ => if isSlice b = true then none else match cE c n a, cE c n b with
      | some x, some y => some (.idx x y)
      | _, _ => none
    | .List es _ => match cEs (cE c n) es with
      | some xs => some (.lst xs)
      | none => none
    | .Tuple es _ _ => match cEs (cE c n) es with
      | some xs => some (.tup xs)
      | none => none
    | .ListComp elt [⟨tg, iter, ifs, 0⟩] scope _ => cLc c (cE c n) (cE { c with sc := L2.relS scope c.sc, blk := some scope } n) n elt tg iter ifs scope
    | _ => none

/-! ### statements -/
/-- name = [..] on one line: the store stands within the comprehension -/
def swapsB (c : Cc) (y : Str) (py : Pos) (e : Expr) : Bool := match e with
  | .ListComp _ _ scope pos => (match c.sc.names.lookup y with | some .local => true | _ => false) && (py.line == pos.line) && !(scope.names.any fun (n, k) => n == y && (k == .local || k == .cell))
  | _ => false
/-- a, b = x, y: plain local names on one line, not all constants -/
def parNames (c : Cc) (line : Nat) : List Expr → Option (List Str)
  | [] => some []
  | .Name x p :: r => match c.sc.names.lookup x with
    | some .local => if (p.line == line) = true then match parNames c line r with
        | some xs => some (x :: xs)
        | none => none
      else none
    | _ => none
  | _ => none
def parOk (c : Cc) (ts vs : List Expr) : Option (List Str) := match parNames c ((ts.head?.map (·.pos.line)).getD 0) ts with
  | some xs => if (ts.length = 2 ∨ ts.length = 3) ∧ vs.length = ts.length ∧ (vs.all fun e => !isStar e) = true ∧ xs.Nodup ∧ vs.all (foldedForSure 8) = false ∧ vs.all (constantsAlone 8) = false then some xs else none
  | none => none
def swName (look : Str → Option NameKind) (line : Nat) : Expr → Option Str
  | .Name id pos => if (look id == some .local && pos.line == line) = true then some id else none
  | _ => none
/-- no swap of stores: the tuple is made, and taken apart -/
def noSwap (c : Cc) (ts vs : List Expr) : Bool :=
  if !(ts.length == 2 || ts.length == 3) || vs.length != ts.length then true
  else if vs.any isStar then true
  else
    let line := (ts.head?.map (·.pos.line)).getD 0
    let names := ts.filterMap (swName (fun x => c.sc.names.lookup x) line)
    if names.length != ts.length || names.eraseDups.length != names.length then true else vs.all (foldedForSure 8)
def cAt (c : Cc) (n : Nat) (f : Expr → Option E) : Expr → Option At
  | .Subscript o i _ => if isSlice i = true then none else match f o, f i with
    | some x, some y => some (.sub x y)
    | _, _ => none
  | e => match cTg c n e with
    | some t => some (.tg t)
    | none => none
def cAts (f : Expr → Option At) : List Expr → Option (List At)
  | [] => some []
  | e :: r => if isStar e = true then none else match f e, cAts f r with
    | some x, some xs => some (x :: xs)
    | _, _ => none
def slotsOf (N : List Str) : List Str → Option (List Nat) := mapO (slotOf N)
def cS (c : Cc) : Nat → Stmt → Option Sm
  | 0, _ => none
  | n + 1, s => match s with
    | .Expr (.Constant (.str _) _ _) _ => some .pass
    | .Expr e _ => if isComp e = true then none else match cE c n e with
      | some x => some (.exp x)
      | none => none
    | .Pass _ => some .pass
    | .Break _ => some .brk
    | .Continue _ => some .cont
    | .Return (some e) _ => match cE c n e with
      | some x => some (.ret x)
      | none => none
    | .Return none _ => some (.ret (.cst .non))
    | .Raise _ _ _ => some .never
    | .Assign [.Name x p] e _ => match cTgt c x, cE c n e with
      | some i, some v => some (.asg (.nm i) v)
      | _, _ => none
    | .Assign [.Tuple ts k p] e _ => match e with
      | .Tuple vs _ _ => if noSwap c ts vs = true then match cAts (fun t => cAt c n (cE c n) t) ts, cE c n e with
          | some t, some v => some (.asgs t v)
          | _, _ => none
        else match parOk c ts vs with
          | some xs => match slotsOf c.N xs, cAs (cE c n) vs with
            | some is, some es => some (.par is es)
            | _, _ => none
          | none => none
      | .Call _ _ _ _ | .Name _ _ | .Subscript _ _ _ | .IfExp _ _ _ _ => match cTg c n (.Tuple ts k p), cE c n e with
        | some t, some v => some (.asg t v)
        | _, _ => none
      | _ => none
    | .Assign [.Subscript o i _] e _ => if isSlice i = true then none else match cE c n o, cE c n i, cE c n e with
      | some x, some y, some v => some (.set x y v)
      | _, _, _ => none
    | .If t a b _ => match cE c n t, cSs (cS c n) a, cSs (cS c n) b with
      | some x, some y, some z => some (.ife x y z)
      | _, _, _ => none
    | .For tg iter b [] _ => match cIt c (cE c n) iter, cTg c n tg, cSs (cS c n) b with
      | some it, some t, some body => if itPair it = true → isPair tg = true then some (.for_ it t body) else none
      | _, _, _ => none
    | .While t b [] _ => match cE c n t, cSs (cS c n) b with
      | some x, some y => some (.whl x y)
      | _, _ => none
    | _ => none
where
  cSs (f : Stmt → Option Sm) : List Stmt → Option Ss
    | [] => some .nil
    | s :: r => match f s, cSs f r with
      | some x, some xs => some (.cons x xs)
      | _, _ => none
end HA

namespace HA
open PySem PySem.Spec PyProof.Rows L2

/-! ### what a def promises; its call -/
/-- the wish about an exception, without slots -/
def WEx (E : XK) : WX := fun c d _ H => E c d H
def spG (S : Fx) (call : List Va → Hh → RE Va) (np : Nat) : Sp := fun vs H Q E => vs.length = np ∧ ∃ ρ h as, Mo S ρ h H ∧ RVs S ρ as vs ∧ Out S (RV S) (WEx E) ρ (call as h) [] Q
/-- as FnOk, where no repr is under way -/
structure FnG (P : Program) (w : World) (K : PySem.W.Frag) (mg : Str → Option Value) (base : Heap) (CX : CXT) (k : Nat) (f : Addr) (fd : FuncData) (ps : List Str) (sp : Sp) : Prop where
  len : ∀ vs H Q E, sp vs H Q E → vs.length = ps.length
  run : ∀ (A : Around) (outer : List Env) (s : Shared) (H : Hp) (args : Args) (us : List Value) (vs : List V) (Q : VK) (E : XK), Room k A → A.guards = some [] → Env0 P w K mg base A outer s H → BindsTo s fd args (ps.zip us) → Vals vs us → sp vs H Q E →
    codeAny (model P w) A (.call (.ref f) args) (CR CX outer P w H s Q E) s

/-- what a body knows of a def that it calls -/
def KwOk (K : PySem.W.Frag) (fd : FuncData) (ps : List Str) (n : Nat) (ks : List Str) : Prop :=
  ∀ (pm : List Nat) (s : Shared) (us ws zs : List Value), kwPerm ps n ks = some pm → K.In s.heap → us.length = n → ws.length = ks.length → permA (us ++ ws) pm = some zs → BindsTo s fd ⟨us, ks.zip ws⟩ (ps.zip zs)
structure CallOk (S : Fx) (C : Cf) (X : Cx) (KW : List (Str × Nat × List Str)) (x : Str) (g : Nat) (ps : List Str) : Prop where
  ex : ∃ f fd k, X.mg x = some (.ref f) ∧ PySem.W.keepIn X.K (.ref f) = true ∧ Room k X.A ∧ FnG X.prog X.w X.K X.mg X.base (L2.CX X.prog X.w) k f fd ps (spG S (C.call g) ps.length) ∧ Binds X.K fd ps [] ∧
    ∀ (n : Nat) (ks : List Str), (x, n, ks) ∈ KW → KwOk X.K fd ps n ks

def usedB : List Str := ["len", "abs", "int", "tuple", "list", "sum", "any", "all", "min", "max", "sorted", "repr", "str", "dict", "isinstance", "range", "zip", "enumerate", "bool"]
structure Good (S : Fx) (W : WX) (C : Cf) (X : Cx) (c : Cc) : Prop where
  hN : X.N = c.N
  nd : c.N.Nodup
  sc : X.env.scope = c.sc
  calm : X.calm = true
  fn : ∀ x, c.fn x = true → X.fn x = true
  k : X.K = S.K
  ns : C.ns = S.ns
  units : X.A.units + 300 < cLine
  guards : X.A.guards = some []
  blt : ∀ x ∈ usedB, c.G.lookup x = none → X.mg x = none
  calls : ∀ x g ps, c.G.lookup x = some (.df g ps) → CallOk S C X c.KW x g ps
  takes : ∀ σ, PassesAt (L2.CX X.prog X.w) X σ (fun cl d H => W cl d σ H)
variable {S : Fx} {W : WX} {C : Cf} {X : Cx} {c : Cc}

theorem Good.slot (G : Good S W C X c) {x : Str} {i : Nat} (e : slotOf c.N x = some i) : X.N[i]? = some x := by rw [G.hN]; exact slotOf_ok e
theorem Good.gl (G : Good S W C X c) {x : Str} (e : isGl c x = true) : Gl X x ∧ (x == ("__debug__" : Str)) = false ∧ x ≠ "__name__" := by
  unfold isGl at e
  split at e
  · cases e
  · rename_i h
    split at e
    · rename_i hl
      refine ⟨?_, ?_, ?_⟩
      · show X.env.scope.names.lookup x = some .globalImplicit
        rw [G.sc]; exact hl
      · cases q : (x == ("__debug__" : Str)) with
        | false => rfl
        | true => exact absurd (.inl q) h
      · intro q; exact h (.inr (by rw [q]; exact beq_self_eq_true _))
    · cases e
theorem Good.bl (G : Good S W C X c) {x : Str} (e : isB c x = true) (u : x ∈ usedB) : Gl X x ∧ (x == ("__debug__" : Str)) = false ∧ x ≠ "__name__" ∧ X.mg x = none := by
  unfold isB at e
  rw [Bool.and_eq_true] at e
  obtain ⟨a, b, d⟩ := G.gl e.1
  exact ⟨a, b, d, G.blt x u (by simpa using e.2)⟩

/-! ### the parts -/
theorem starEach_plain {e : Expr} {es : List Expr} {env : Env} (h : isStar e = false) : starEach (e :: es) env = (false, eval e env) :: starEach es env := by
  cases e <;> first | rfl | cases h
theorem pa_nilS : PA X [] (rdA S W fun _ h => .ok [] h) := PA.weak pa_nil fun τ H Q ⟨ρ, σ, h, rs, mo, o⟩ => o ρ [] H .refl mo .nil
theorem pa_consS {e : Expr} {es : List Expr} {fa : Sl → Hh → RE Va} {fr : Sl → Hh → RE (List Va)} (ha : PE X e (rdE S W fa)) (hr : PA X es (rdA S W fr)) (hs : isStar e = false) :
    PA X (e :: es) (rdA S W fun σ h => (fa σ h).bind fun x h1 => (fr σ h1).bind fun xs h2 => .ok (x :: xs) h2) := by
  refine PA.weak (pa_cons ha hr (starEach_plain hs)) fun τ H Q ⟨ρ, σ, h, rs, mo, o⟩ => ?_
  refine rd.mono (out_bind rs mo o) fun x H1 ⟨ρ2, h1, a, le, m1, ra, o1⟩ => ?_
  refine rd.mono (out_bind (rs.le le) m1 o1) fun xs H2 ⟨ρ3, h2, b, le2, m2, rb, o2⟩ => ?_
  exact o2 ρ3 (x :: xs) H2 .refl m2 (.cons (ra.le le2) rb)
theorem seqOf_rel {ρ : List Addr} {h : Hh} {H : Hp} {a : Va} {x : V} {s : List (Nat × Ob)} {ys : List Va} (m : Mo S ρ h H) (ra : RV S ρ a x) (e : seqOf h a = some (s, ys)) :
    ∃ l p vs, a = .ref l ∧ ρ[l]? = some p ∧ x = .ref p ∧ RVs S ρ ys vs ∧ ((s = [(l, .lst ys)] ∧ h[l]? = some (.lst ys) ∧ H p = some (.lst vs)) ∨ (s = [(l, .tup ys)] ∧ h[l]? = some (.tup ys) ∧ H p = some (.tup vs))) := by
  unfold seqOf at e
  split at e
  · rename_i l
    obtain ⟨p, e1, rfl⟩ := ra
    split at e
    · rename_i xs q
      cases e
      obtain ⟨vs, g, r⟩ := m.lst e1 q
      exact ⟨l, p, vs, rfl, e1, rfl, r, .inl ⟨rfl, q, g⟩⟩
    · rename_i xs q
      cases e
      obtain ⟨vs, g, r⟩ := m.tup e1 q
      exact ⟨l, p, vs, rfl, e1, rfl, r, .inr ⟨rfl, q, g⟩⟩
    · cases e
  · cases e
theorem star_here {pins : List (Addr × Obj)} {σ : L2.St} {H : Hp} {s : Shared} {p : Addr} {vs : List V} {Q : List Value → Shared → Prop} {E : Value → Shared → Prop} (I : Inv X pins σ H s) (h : H p = some (.lst vs) ∨ H p = some (.tup vs)) (q : ∀ us s', Vals vs us → Inv X pins σ H s' → Q us s') :
    PySem.W.StarOf (model X.prog X.w) X.A E (.ref p) Q s := by
  unfold PySem.W.StarOf notIterableAtAll
  rcases h with h | h
  · obtain ⟨its, rv, ⟨o, n, ho, hc, hdc, hd⟩, hz⟩ := I.list (.of h)
    have hT : s.TypeIs (.ref p) "list" := ⟨o, ho, hc⟩
    refine wpAny_bind (wpAny_specialOf hT PySem.F.slot_list_iter.lookup (wpAny_pure ⟨rfl, ?_⟩))
    refine wpAny_collect_seq p (by first | exact .inl rfl | exact .inr rfl) ho hc hd (fun h' hk => ?_) (by rw [List.size_toArray, ← rv.length]; exact hz)
    exact q _ _ (by simpa using rv) (I.kept (t' := s.toks) hk)
  · obtain ⟨its, rv, ⟨o, ho, hc, n, hd⟩, hz⟩ := I.tuple (.of h)
    have hT : s.TypeIs (.ref p) "tuple" := ⟨o, ho, hc⟩
    refine wpAny_bind (wpAny_specialOf hT PySem.F.slot_tuple_iter.lookup (wpAny_pure ⟨rfl, ?_⟩))
    refine wpAny_collect_seq p (by first | exact .inl rfl | exact .inr rfl) ho hc hd (fun h' hk => ?_) (by rw [List.size_toArray, ← rv.length]; exact hz)
    exact q _ _ (by simpa using rv) (I.kept (t' := s.toks) hk)
theorem pa_starS {e : Expr} {es : List Expr} {sp : Pos} {fa : Sl → Hh → RE Va} {fr : Sl → Hh → RE (List Va)} (ha : PE X e (rdE S W fa)) (hr : PA X es (rdA S W fr)) :
    PA X (.Starred e sp :: es) (rdA S W fun σ h => (fa σ h).bind fun x h1 => match seqOf h1 x with
      | some (_, ys) => (fr σ h1).bind fun xs h2 => .ok (ys ++ xs) h2
      | none => .bad) := by
  refine ⟨fun pos pins s τ H Q I ⟨ρ, σ, h, rs, mo, o⟩ => ?_⟩
  refine PySem.W.items_star (thn (ha.run pins s τ H _ I (out_bind rs mo o)) fun u s1 ⟨x, H1, I1, rx, ρ2, h1, a, le, m1, ra, o1⟩ => ?_)
  cases q : seqOf h1 a with
  | none => rw [q] at o1; exact o1.elim
  | some p =>
    obtain ⟨src, ys⟩ := p
    rw [q] at o1
    obtain ⟨l, p, vs, _, _, rfl, rv, cases_⟩ := seqOf_rel m1 ra q
    cases rx
    refine star_here I1 (cases_.elim (fun ⟨_, _, g⟩ => .inl g) fun ⟨_, _, g⟩ => .inr g) fun us s2 rus I2 => ?_
    refine thn (hr.run pos pins s2 τ H1 _ I2 (out_bind (rs.le le) m1 o1)) fun ws s3 ⟨xs, H3, I3, rws, ρ3, h3, b, le3, m3, rb, o3⟩ => ?_
    exact ⟨vs ++ xs, H3, I3, rus.append rws, o3 ρ3 (vs ++ xs) H3 .refl m3 (Paired.app (RVs.le le3 rv) rb)⟩
end HA

namespace HA
open PySem PySem.Spec PyProof.Rows L2
variable {S : Fx} {W : WX} {C : Cf} {X : Cx} {c : Cc}

/-! ### truth and tests -/
theorem rd_tst {f : Sl → Hh → RE Va} {τ : L2.St} {H : Hp} {Q : Bool → Hp → Prop} (h : rdT S W (fun σ h => tst (f σ h)) τ H Q) : rdE S W f τ H (fun x H' => ∃ k, TruV S.K x H' k ∧ Q k H') := by
  obtain ⟨ρ, σ, h, rs, mo, o⟩ := h
  refine rd.mono (out_bind rs mo o) fun x H1 ⟨ρ2, h1, a, le, m1, ra, o1⟩ => ?_
  unfold liftO at o1
  split at o1
  · rename_i k q
    exact ⟨k, truV_ok m1 ra q, o1 ρ2 k H1 .refl m1 rfl⟩
  · exact o1.elim
theorem pt_any {e : Expr} {f : Sl → Hh → RE Va} (hK : X.K = S.K) (he : PE X e (rdE S W f)) (hi : ∀ whole, isTrue e X.env whole = (do let v ← whole; standAt e.pos; holding [v] (truthy v))) : PT X e (rdT S W (fun σ h => tst (f σ h))) :=
  PT.weak (pt_truth he hi) fun τ H Q h => by rw [hK]; exact rd_tst h
theorem pt_ifExp {t a b : Expr} {tc ta tb : TT} {pos : Pos} (hc : PT X t tc) (ha : PT X a ta) (hb : PT X b tb) : PT X (.IfExp t a b pos) (fun σ H Q => tc σ H fun k H1 => if k = true then ta σ H1 Q else tb σ H1 Q) := by
  refine ⟨fun pins s σ H Q I h => ?_⟩
  show wpAny _ _ (do if ← isTrue t X.env (eval t X.env) then isTrue a X.env (eval a X.env) else isTrue b X.env (eval b X.env)) _ _ s
  refine wpAny_bind (thn (hc.run pins s σ H _ I h) fun k s1 ⟨H1, I1, q1⟩ => ?_)
  cases k with
  | true => exact ha.run pins s1 σ H1 Q I1 q1
  | false => exact hb.run pins s1 σ H1 Q I1 q1

/-! ### the cases -/
theorem pe_varS {x : Str} {i : Nat} {pos : Pos} (G : Good S W C X c) (e : cVar c x = some i) : PE X (.Name x pos) (rdE S W (ev C (.var i))) := by
  unfold cVar at e
  split at e
  · cases e
  · rename_i hn
    have d1 : (x == ("__debug__" : Str)) = false := by
      cases q : (x == ("__debug__" : Str)) with
      | false => rfl
      | true => exact absurd (.inl q) hn
    have d2 : (x == ("__classdict__" : Str)) = false := by
      cases q : (x == ("__classdict__" : Str)) with
      | false => rfl
      | true => exact absurd (.inr q) hn
    have fin : Vis X.env.scope x → slotOf c.N x = some i → PE X (.Name x pos) (rdE S W (ev C (.var i))) := fun hv e => by
      refine PE.weak (pe_var (G.slot e) hv d1 d2) fun τ H Q ⟨ρ, σ, h, rs, mo, o⟩ => ?_
      unfold ev at o
      split at o
      · rename_i v q
        obtain ⟨w, a, b⟩ := rs.2 i v q
        exact ⟨w, a, o ρ w H .refl mo b⟩
      · exact o.elim
    split at e
    · rename_i hl; exact fin (.inl (by rw [G.sc]; exact hl)) e
    · rename_i hl; exact fin (.inr (.inl (by rw [G.sc]; exact hl))) e
    · rename_i hl; exact fin (.inr (.inr (by rw [G.sc]; exact hl))) e
    · cases e
theorem pe_cst {v : Va} {w : V} {e : Expr} (h : PE X e (tC w)) (r : ∀ ρ : List Addr, RV S ρ v w) : PE X e (rdE S W (ev C (.cst v))) :=
  PE.weak h fun τ H Q ⟨ρ, σ, h, rs, mo, o⟩ => o ρ w H .refl mo (r ρ)
theorem pe_binS {a b : Expr} {op : Operator} {o : Bo} {u v : E} {pos : Pos} (G : Good S W C X c) (eo : cBo op = some o) (ha : PE X a (rdE S W (ev C u))) (hb : PE X b (rdE S W (ev C v))) : PE X (.BinOp a op b pos) (rdE S W (ev C (.bin o u v))) := by
  cases op <;> first
    | (cases eo; done)
    | (cases eo; first
        | exact PE.weak (pe_op or_add ha hb) fun τ H Q h => rd_op2 (g := addV) (by rw [G.k]; exact op2_add) h
        | exact PE.weak (pe_op op_sub ha hb) fun τ H Q h => rd_op2 (g := subV) op2_sub h
        | exact PE.weak (pe_op or_mul ha hb) fun τ H Q h => rd_op2 (g := mulV) op2_mul h
        | exact PE.weak (pe_op op_fdiv ha hb) fun τ H Q h => rd_op2 (g := fdivV) op2_fdiv h
        | exact PE.weak (pe_op op_mod ha hb) fun τ H Q h => rd_op2 (g := modV) op2_mod h
        | exact PE.weak (pe_op op_pow ha hb) fun τ H Q h => rd_op2 (g := powV) op2_pow h)
theorem pe_negS {a : Expr} {u : E} {pos : Pos} (ha : PE X a (rdE S W (ev C u))) : PE X (.UnaryOp .USub a pos) (rdE S W (ev C (.neg u))) :=
  PE.weak (pe_un un_neg ha) fun τ H Q h => rd_op1 (g := negV) op1_neg h
theorem pe_notS {a : Expr} {u : E} {pos : Pos} (G : Good S W C X c) (ha : PE X a (rdE S W (ev C u))) : PE X (.UnaryOp .Not a pos) (rdE S W (ev C (.not u))) := by
  refine PE.weak (pe_notT ha) fun τ H Q ⟨ρ, σ, h, rs, mo, o⟩ => ?_
  rw [G.k]
  refine rd_tst (Q := fun k H' => Q (.bl (!k)) H') ?_
  refine rd.mono (R := fun _ (a b : Bool) => a = b) (out_bind (R := fun _ (a b : Bool) => a = b) (f := fun σ h => tst (ev C u σ h)) rs mo o) fun k H1 ⟨ρ2, h1, k', le, m1, e, o1⟩ => ?_
  subst e
  exact o1 ρ2 (.bl (!k')) H1 .refl m1 rfl
theorem pt_notS {a : Expr} {u : E} {pos : Pos} (ha : PT X a (rdT S W (fun σ h => tst (ev C u σ h)))) : PT X (.UnaryOp .Not a pos) (rdT S W (fun σ h => tst (ev C (.not u) σ h))) := by
  refine PT.weak (pt_not ha) fun τ H Q ⟨ρ, σ, h, rs, mo, o⟩ => ?_
  have o : Out S (fun _ (a b : Bool) => a = b) W ρ ((tst (ev C u σ h)).bind fun k h1 => .ok (!k) h1) τ Q := by
    have e : tst (ev C (.not u) σ h) = (tst (ev C u σ h)).bind fun k h1 => .ok (!k) h1 := by
      show (RE.bind (RE.bind (tst (ev C u σ h)) fun b h1 => .ok (.bl (!b)) h1) fun a h => liftO (truV a h) h) = _
      cases tst (ev C u σ h) <;> rfl
    rw [← e]; exact o
  refine rd.mono (out_bind (R := fun _ (a b : Bool) => a = b) (f := fun σ h => tst (ev C u σ h)) rs mo o) fun k H1 ⟨ρ2, h1, k', le, m1, e, o1⟩ => ?_
  subst e
  exact o1 ρ2 (!k') H1 .refl m1 rfl
/-! and, or -/
theorem pe_andS {a b : Expr} {r : List Expr} {u v : E} {pos : Pos} (G : Good S W C X c) (ha : PE X a (rdE S W (ev C u))) (hb : PE X (.BoolOp .And (b :: r) pos) (rdE S W (ev C v))) : PE X (.BoolOp .And (a :: b :: r) pos) (rdE S W (ev C (.and u v))) := by
  refine PE.weak (pe_andT ha hb) fun τ H Q ⟨ρ, σ, h, rs, mo, o⟩ => ?_
  rw [G.k]
  refine rd.mono (out_bind (f := ev C u) rs mo o) fun x H1 ⟨ρ2, h1, x', le, m1, ra, o1⟩ => ?_
  cases q : truV x' h1 with
  | none => rw [q] at o1; exact o1.elim
  | some k =>
    rw [q] at o1
    refine ⟨k, truV_ok m1 ra q, ?_⟩
    cases k with
    | true => exact ⟨ρ2, σ, h1, rs.le le, m1, o1⟩
    | false => exact o1 ρ2 x H1 .refl m1 ra
theorem pe_orS {a b : Expr} {r : List Expr} {u v : E} {pos : Pos} (G : Good S W C X c) (ha : PE X a (rdE S W (ev C u))) (hb : PE X (.BoolOp .Or (b :: r) pos) (rdE S W (ev C v))) : PE X (.BoolOp .Or (a :: b :: r) pos) (rdE S W (ev C (.or u v))) := by
  refine PE.weak (pe_orT ha hb) fun τ H Q ⟨ρ, σ, h, rs, mo, o⟩ => ?_
  rw [G.k]
  refine rd.mono (out_bind (f := ev C u) rs mo o) fun x H1 ⟨ρ2, h1, x', le, m1, ra, o1⟩ => ?_
  cases q : truV x' h1 with
  | none => rw [q] at o1; exact o1.elim
  | some k =>
    rw [q] at o1
    refine ⟨k, truV_ok m1 ra q, ?_⟩
    cases k with
    | false => exact ⟨ρ2, σ, h1, rs.le le, m1, o1⟩
    | true => exact o1 ρ2 x H1 .refl m1 ra
/-- tests: PW, whatever the whole -/
theorem pw_andS {a b : Expr} {r : List Expr} {u v : E} {pos : Pos} (ha : PT X a (rdT S W (fun σ h => tst (ev C u σ h)))) (hb : PW X (.BoolOp .And (b :: r) pos) (rdT S W (fun σ h => tst (ev C v σ h)))) : PW X (.BoolOp .And (a :: b :: r) pos) (rdT S W (fun σ h => tst (ev C (.and u v) σ h))) := by
  refine ⟨fun wh pins s τ H Q I hq => (pw_and ha hb).run wh pins s τ H Q I ?_⟩
  obtain ⟨ρ, σ, h, rs, mo, o⟩ := hq
  have o : Out S (fun _ (a b : Bool) => a = b) W ρ ((tst (ev C u σ h)).bind fun k h1 => if k = true then tst (ev C v σ h1) else .ok false h1) τ Q := by
    have e : tst (ev C (.and u v) σ h) = (tst (ev C u σ h)).bind fun k h1 => if k = true then tst (ev C v σ h1) else .ok false h1 := by
      show RE.bind (RE.bind (ev C u σ h) _) _ = RE.bind (RE.bind (ev C u σ h) _) _
      cases ev C u σ h with
      | bad => rfl
      | exc _ _ _ => rfl
      | ok x h1 =>
        show RE.bind (match truV x h1 with | some true => ev C v σ h1 | some false => .ok x h1 | none => .bad) _ = RE.bind (liftO (truV x h1) h1) _
        cases q : truV x h1 with
        | none => rfl
        | some k =>
          cases k with
          | true => rfl
          | false => show liftO (truV x h1) h1 = _; rw [q]; rfl
    rw [← e]; exact o
  refine rd.mono (out_bind (R := fun _ (a b : Bool) => a = b) (f := fun σ h => tst (ev C u σ h)) rs mo o) fun k H1 ⟨ρ2, h1, k', le, m1, e, o1⟩ => ?_
  subst e
  cases k' with
  | true => exact ⟨ρ2, σ, h1, rs.le le, m1, o1⟩
  | false => exact o1 ρ2 false H1 .refl m1 rfl
theorem pw_orS {a b : Expr} {r : List Expr} {u v : E} {pos : Pos} (ha : PT X a (rdT S W (fun σ h => tst (ev C u σ h)))) (hb : PW X (.BoolOp .Or (b :: r) pos) (rdT S W (fun σ h => tst (ev C v σ h)))) : PW X (.BoolOp .Or (a :: b :: r) pos) (rdT S W (fun σ h => tst (ev C (.or u v) σ h))) := by
  refine ⟨fun wh pins s τ H Q I hq => (pw_or ha hb).run wh pins s τ H Q I ?_⟩
  obtain ⟨ρ, σ, h, rs, mo, o⟩ := hq
  have o : Out S (fun _ (a b : Bool) => a = b) W ρ ((tst (ev C u σ h)).bind fun k h1 => if k = true then .ok true h1 else tst (ev C v σ h1)) τ Q := by
    have e : tst (ev C (.or u v) σ h) = (tst (ev C u σ h)).bind fun k h1 => if k = true then .ok true h1 else tst (ev C v σ h1) := by
      show RE.bind (RE.bind (ev C u σ h) _) _ = RE.bind (RE.bind (ev C u σ h) _) _
      cases ev C u σ h with
      | bad => rfl
      | exc _ _ _ => rfl
      | ok x h1 =>
        show RE.bind (match truV x h1 with | some true => .ok x h1 | some false => ev C v σ h1 | none => .bad) _ = RE.bind (liftO (truV x h1) h1) _
        cases q : truV x h1 with
        | none => rfl
        | some k =>
          cases k with
          | false => rfl
          | true => show liftO (truV x h1) h1 = _; rw [q]; rfl
    rw [← e]; exact o
  refine rd.mono (out_bind (R := fun _ (a b : Bool) => a = b) (f := fun σ h => tst (ev C u σ h)) rs mo o) fun k H1 ⟨ρ2, h1, k', le, m1, e, o1⟩ => ?_
  subst e
  cases k' with
  | false => exact ⟨ρ2, σ, h1, rs.le le, m1, o1⟩
  | true => exact o1 ρ2 true H1 .refl m1 rfl
theorem cBool_ok {op : BoolOp} {pos : Pos} (f : Expr → Option E) (G : Good S W C X c) (hf : ∀ e u, f e = some u → PE X e (rdE S W (ev C u)) ∧ PT X e (rdT S W (fun σ h => tst (ev C u σ h)))) : ∀ (vs : List Expr) (u : E), cBool f op vs = some u →
    PE X (.BoolOp op vs pos) (rdE S W (ev C u)) ∧ PW X (.BoolOp op vs pos) (rdT S W (fun σ h => tst (ev C u σ h)))
  | [], _, e => by cases e
  | [a], u, e => by
    obtain ⟨h1, h2⟩ := hf a u e
    refine ⟨pe_one h1, ?_⟩
    cases op
    · exact pw_and1 h2
    · exact pw_or1 h2
  | a :: b :: r, u, e => by
    unfold cBool at e
    split at e
    · rename_i x y ex ey
      cases e
      obtain ⟨h1, h2⟩ := hf a x ex
      obtain ⟨h3, h4⟩ := cBool_ok f G hf (b :: r) y ey
      exact ⟨pe_andS G h1 h3, pw_andS h2 h4⟩
    · rename_i x y ex ey
      cases e
      obtain ⟨h1, h2⟩ := hf a x ex
      obtain ⟨h3, h4⟩ := cBool_ok f G hf (b :: r) y ey
      exact ⟨pe_orS G h1 h3, pw_orS h2 h4⟩
    · cases e
/-! comparisons -/
def rCo (K : PySem.W.Frag) : Co → R2
  | .eq => rEqD K
  | .ne => rNeD K
  | .ord o => rOrd K o
  | .in_ ng => rInA K ng
theorem or_co {op : CmpOp} {o : Co} (e : cCo op = some o) (hu : X.A.units + 300 < cLine) : OpR X (compareOp op) (rCo X.K o) := by
  cases op <;> first
    | (cases e; done)
    | (cases e; first
        | exact op_eqD (by omega)
        | exact op_neD (by omega)
        | exact or_ord (by omega) .lt
        | exact or_ord (by omega) .le
        | exact or_ord (by omega) .gt
        | exact or_ord (by omega) .ge
        | exact or_in (by omega)
        | exact or_notIn (by omega))
theorem op2_co (o : Co) : Op2 S (cmpV o) (rCo S.K o) := by
  cases o with
  | eq => exact op2_eq
  | ne => exact op2_ne
  | ord o => exact op2_ord o
  | in_ ng => exact op2_in ng
theorem cmpV_bl (o : Co) (a b : Va) (h : Hh) : cmpV o a b h = .bad ∨ ∃ k, cmpV o a b h = .ok (.bl k) h := by
  have eqc : ∀ ng, eqD ng a b h = .bad ∨ ∃ k, eqD ng a b h = .ok (.bl k) h := fun ng => by
    unfold eqD
    split
    · split
      · exact .inr ⟨_, rfl⟩
      · exact .inl rfl
    · exact .inl rfl
  cases o with
  | eq => exact eqc false
  | ne => exact eqc true
  | ord o =>
    show ordV o a b h = .bad ∨ ∃ k, ordV o a b h = .ok (.bl k) h
    unfold ordV
    split
    · exact .inr ⟨_, rfl⟩
    · split
      · split
        · exact .inr ⟨_, rfl⟩
        · exact .inl rfl
      · exact .inl rfl
  | in_ ng =>
    show inV ng a b h = .bad ∨ ∃ k, inV ng a b h = .ok (.bl k) h
    unfold inV
    split
    · exact .inr ⟨_, rfl⟩
    · split
      all_goals first
        | exact .inl rfl
        | (split
           all_goals first
             | exact .inl rfl
             | exact .inr ⟨_, rfl⟩
             | (split
                · exact .inr ⟨_, rfl⟩
                · exact .inl rfl))
    · exact .inl rfl
theorem marks {op : CmpOp} {b : Expr} (h : isSet b = false) : behindInMarks op b = false := by cases b <;> first | rfl | cases h
theorem pe_cmpS {a b : Expr} {op : CmpOp} {o : Co} {u v : E} {pos : Pos} (G : Good S W C X c) (eo : cCo op = some o) (hs : isSet b = false) (ha : PE X a (rdE S W (ev C u))) (hb : PE X b (rdE S W (ev C v))) : PE X (.Compare a [op] [b] pos) (rdE S W (ev C (.cmp o u v))) :=
  PE.weak (pe_cmpR (or_co eo G.units) ha hb (marks hs)) fun τ H Q h => rd_op2 (g := cmpV o) (by rw [G.k]; exact op2_co o) h
/-- a comparison that is a bool -/
theorem out_bl {o : Co} {ρ : List Addr} {x y : Va} {h : Hh} {τ : L2.St} {Q : Bool → Hp → Prop} (q : Out S (fun _ (a b : Bool) => a = b) W ρ (tst (cmpV o x y h)) τ Q) : Out S (RV S) W ρ (cmpV o x y h) τ (fun z H' => ∃ k, z = .bl k ∧ Q k H') := by
  rcases cmpV_bl o x y h with e | ⟨k, e⟩
  · rw [e] at q; exact q.elim
  · rw [e] at q ⊢
    exact fun ρ' z H' le m r => ⟨k, r, q ρ' k H' le m rfl⟩
theorem pt_cmpS {a b : Expr} {op : CmpOp} {o : Co} {u v : E} {pos : Pos} (G : Good S W C X c) (eo : cCo op = some o) (hs : isSet b = false) (ha : PE X a (rdE S W (ev C u))) (hb : PE X b (rdE S W (ev C v))) : PT X (.Compare a [op] [b] pos) (rdT S W (fun σ h => tst (ev C (.cmp o u v) σ h))) := by
  refine PT.weak (pt_cmpR (or_co eo G.units) ha hb (marks hs)) fun τ H Q ⟨ρ, σ, h, rs, mo, q⟩ => ?_
  rw [G.k]
  have q : Out S (fun _ (a b : Bool) => a = b) W ρ ((ev C u σ h).bind fun x h1 => (ev C v σ h1).bind fun y h2 => tst (cmpV o x y h2)) τ Q := by
    have e : tst (ev C (.cmp o u v) σ h) = ((ev C u σ h).bind fun x h1 => (ev C v σ h1).bind fun y h2 => tst (cmpV o x y h2)) := by
      show RE.bind (RE.bind (ev C u σ h) _) _ = _
      cases ev C u σ h with
      | bad => rfl
      | exc _ _ _ => rfl
      | ok x h1 =>
        show RE.bind (RE.bind (ev C v σ h1) _) _ = RE.bind (ev C v σ h1) _
        cases ev C v σ h1 <;> rfl
    rw [← e]; exact q
  refine rd.mono (out_bind (f := ev C u) rs mo q) fun x H1 ⟨ρ2, h1, x', le, m1, ra, o1⟩ => ?_
  refine rd.mono (out_bind (f := ev C v) (rs.le le) m1 o1) fun y H2 ⟨ρ3, h2, y', le2, m2, rb, o2⟩ => ?_
  exact op2_co o ρ3 h2 H2 x' y' x y W τ _ m2 (ra.le le2) rb (out_bl o2)
/-- is None -/
theorem pe_isNS {a : Expr} {u : E} {pos p : Pos} {k : Nat} (ha : PE X a (rdE S W (ev C u))) : PE X (.Compare a [.Is] [.Constant .none k p] pos) (rdE S W (ev C (.isN false u))) := by
  refine PE.weak (pe_cmp (pc_isN ha)) fun τ H Q ⟨ρ, σ, h, rs, mo, o⟩ => ?_
  refine rd.mono (out_bind (f := ev C u) rs mo o) fun x H1 ⟨ρ2, h1, x', le, m1, ra, o1⟩ => ?_
  have e : decide (x = .non) = (false ^^ decide (x' = .non)) := by
    rw [Bool.false_xor]
    cases x' with
    | non => rw [show x = .non from ra]; rfl
    | bl b => rw [show x = .bl b from ra]; rfl
    | int b => rw [show x = .int b from ra]; rfl
    | str b => rw [show x = .str b from ra]; rfl
    | ref l => obtain ⟨p, _, e⟩ := ra; rw [e]; rfl
    | scr => rw [show x = .ref S.sa from ra]; rfl
  rw [e]
  exact o1 ρ2 _ H1 .refl m1 rfl
theorem pe_notNS {a : Expr} {u : E} {pos p : Pos} {k : Nat} (ha : PE X a (rdE S W (ev C u))) : PE X (.Compare a [.IsNot] [.Constant .none k p] pos) (rdE S W (ev C (.isN true u))) := by
  refine PE.weak (pe_cmp (pc_notN ha)) fun τ H Q ⟨ρ, σ, h, rs, mo, o⟩ => ?_
  refine rd.mono (out_bind (f := ev C u) rs mo o) fun x H1 ⟨ρ2, h1, x', le, m1, ra, o1⟩ => ?_
  have e : (!decide (x = .non)) = (true ^^ decide (x' = .non)) := by
    rw [Bool.true_xor]
    cases x' with
    | non => rw [show x = .non from ra]; rfl
    | bl b => rw [show x = .bl b from ra]; rfl
    | int b => rw [show x = .int b from ra]; rfl
    | str b => rw [show x = .str b from ra]; rfl
    | ref l => obtain ⟨p, _, e⟩ := ra; rw [e]; rfl
    | scr => rw [show x = .ref S.sa from ra]; rfl
  rw [e]
  exact o1 ρ2 _ H1 .refl m1 rfl
theorem rd_isN {u : E} {ng : Bool} {τ : L2.St} {H : Hp} {Q : Bool → Hp → Prop} (h : rdT S W (fun σ h => tst (ev C (.isN ng u) σ h)) τ H Q) : rdE S W (ev C (.isN ng u)) τ H (fun x H1 => ∃ k, x = .bl k ∧ Q k H1) := by
  obtain ⟨ρ, σ, h, rs, mo, o⟩ := h
  refine ⟨ρ, σ, h, rs, mo, ?_⟩
  have e : ev C (.isN ng u) σ h = (ev C u σ h).bind fun x h1 => .ok (.bl (ng ^^ decide (x = .non))) h1 := rfl
  have o : Out S (fun _ (a b : Bool) => a = b) W ρ (tst (ev C (.isN ng u) σ h)) τ Q := o
  rw [e] at o ⊢
  cases q : ev C u σ h with
  | bad => rw [q] at o; exact o
  | exc _ _ _ => rw [q] at o; exact o
  | ok x h1 =>
    rw [q] at o
    exact fun ρ' z H' le m r => ⟨_, r, o ρ' _ H' le m rfl⟩
/-- a op b op' d -/
theorem pe_chnS {a b d : Expr} {op op' : CmpOp} {o o' : Co} {u v w : E} {pos : Pos} (G : Good S W C X c) (eo : cCo op = some o) (eo' : cCo op' = some o') (hs : isSet d = false) (ha : PE X a (rdE S W (ev C u))) (hb : PE X b (rdE S W (ev C v))) (hd : PE X d (rdE S W (ev C w))) :
    PE X (.Compare a [op, op'] [b, d] pos) (rdE S W (ev C (.chn o o' u v w))) := by
  have hm : lastMarks [op, op'] [b, d] = false := marks hs
  refine PE.weak (pe_chain (or_co eo G.units) (or_co eo' G.units) ha hb hd hm) fun τ H Q ⟨ρ, σ, h, rs, mo, q⟩ => ?_
  rw [G.k]
  refine rd.mono (out_bind (f := ev C u) rs mo q) fun x H1 ⟨ρ2, h1, x', le, m1, ra, o1⟩ => ?_
  refine rd.mono (out_bind (f := ev C v) (rs.le le) m1 o1) fun y H2 ⟨ρ3, h2, y', le2, m2, rb, o2⟩ => ?_
  refine op2_co o ρ3 h2 H2 x' y' x y W τ _ m2 (ra.le le2) rb ?_
  rcases cmpV_bl o x' y' h2 with e | ⟨k, e⟩
  · rw [e] at o2; exact o2.elim
  · rw [e] at o2 ⊢
    intro ρ4 z H4 le4 m4 rz
    refine ⟨k, rz, ?_⟩
    cases k with
    | false => exact o2 ρ4 (.bl false) H4 le4 m4 rfl
    | true =>
      rw [if_pos rfl]
      refine rd.mono (out_bind (f := ev C w) ((rs.le le).le (le2.trans le4)) m4 (Out.le (r := (ev C w σ h2).bind fun z h4 => cmpV o' y' z h4) o2 le4)) fun z H5 ⟨ρ5, h5, z', le5, m5, rz', o5⟩ => ?_
      exact op2_co o' ρ5 h5 H5 y' z' y z W τ Q m5 (rb.le (le4.trans le5)) rz' o5
theorem pt_chnS {a b d : Expr} {op op' : CmpOp} {o o' : Co} {u v w : E} {pos : Pos} (G : Good S W C X c) (eo : cCo op = some o) (eo' : cCo op' = some o') (hs : isSet d = false) (ha : PE X a (rdE S W (ev C u))) (hb : PE X b (rdE S W (ev C v))) (hd : PE X d (rdE S W (ev C w))) :
    PT X (.Compare a [op, op'] [b, d] pos) (rdT S W (fun σ h => tst (ev C (.chn o o' u v w) σ h))) := by
  have hm : lastMarks [op, op'] [b, d] = false := marks hs
  refine PT.weak (pt_chain (or_co eo G.units) (or_co eo' G.units) ha hb hd hm) fun τ H Q ⟨ρ, σ, h, rs, mo, q⟩ => ?_
  rw [G.k]
  have q : Out S (fun _ (a b : Bool) => a = b) W ρ ((ev C u σ h).bind fun x h1 => (ev C v σ h1).bind fun y h2 => (cmpV o x y h2).bind fun r h3 => match r with
      | .bl true => (ev C w σ h3).bind fun z h4 => tst (cmpV o' y z h4)
      | .bl false => .ok false h3
      | _ => .bad) τ Q := by
    have e : tst (ev C (.chn o o' u v w) σ h) = ((ev C u σ h).bind fun x h1 => (ev C v σ h1).bind fun y h2 => (cmpV o x y h2).bind fun r h3 => match r with
      | .bl true => (ev C w σ h3).bind fun z h4 => tst (cmpV o' y z h4)
      | .bl false => .ok false h3
      | _ => .bad) := by
      show RE.bind (RE.bind (ev C u σ h) _) _ = _
      cases ev C u σ h with
      | bad => rfl
      | exc _ _ _ => rfl
      | ok x h1 =>
        show RE.bind (RE.bind (ev C v σ h1) _) _ = RE.bind (ev C v σ h1) _
        cases ev C v σ h1 with
        | bad => rfl
        | exc _ _ _ => rfl
        | ok y h2 =>
          show RE.bind (RE.bind (cmpV o x y h2) _) _ = RE.bind (cmpV o x y h2) _
          rcases cmpV_bl o x y h2 with e | ⟨k, e⟩
          · rw [e]; rfl
          · rw [e]
            cases k with
            | false => rfl
            | true =>
              show RE.bind (RE.bind (ev C w σ h2) _) _ = RE.bind (ev C w σ h2) _
              cases ev C w σ h2 <;> rfl
    rw [← e]; exact q
  refine rd.mono (out_bind (f := ev C u) rs mo q) fun x H1 ⟨ρ2, h1, x', le, m1, ra, o1⟩ => ?_
  refine rd.mono (out_bind (f := ev C v) (rs.le le) m1 o1) fun y H2 ⟨ρ3, h2, y', le2, m2, rb, o2⟩ => ?_
  refine op2_co o ρ3 h2 H2 x' y' x y W τ _ m2 (ra.le le2) rb ?_
  rcases cmpV_bl o x' y' h2 with e | ⟨k, e⟩
  · rw [e] at o2; exact o2.elim
  · rw [e] at o2 ⊢
    intro ρ4 z H4 le4 m4 rz
    refine ⟨k, rz, ?_⟩
    cases k with
    | false => exact ⟨false, rfl, o2 ρ4 false H4 le4 m4 rfl⟩
    | true =>
      rw [if_pos rfl]
      refine rd.mono (out_bind (f := ev C w) ((rs.le le).le (le2.trans le4)) m4 (Out.le (r := (ev C w σ h2).bind fun z h4 => tst (cmpV o' y' z h4)) o2 le4)) fun z H5 ⟨ρ5, h5, z', le5, m5, rz', o5⟩ => ?_
      exact op2_co o' ρ5 h5 H5 y' z' y z W τ _ m5 (rb.le (le4.trans le5)) rz' (out_bl o5)
theorem pe_ifeS {t a b : Expr} {x u v : E} {pos : Pos} (ht : PT X t (rdT S W (fun σ h => tst (ev C x σ h)))) (ha : PE X a (rdE S W (ev C u))) (hb : PE X b (rdE S W (ev C v))) : PE X (.IfExp t a b pos) (rdE S W (ev C (.ife x u v))) := by
  refine PE.weak (pe_ifExp ht ha hb) fun τ H Q ⟨ρ, σ, h, rs, mo, q⟩ => ?_
  refine rd.mono (out_bind (R := fun _ (a b : Bool) => a = b) (f := fun σ h => tst (ev C x σ h)) rs mo q) fun k H1 ⟨ρ2, h1, k', le, m1, e, o1⟩ => ?_
  subst e
  cases k' with
  | true => exact ⟨ρ2, σ, h1, rs.le le, m1, o1⟩
  | false => exact ⟨ρ2, σ, h1, rs.le le, m1, o1⟩
theorem pt_ifeS {t a b : Expr} {x u v : E} {pos : Pos} (ht : PT X t (rdT S W (fun σ h => tst (ev C x σ h)))) (ha : PT X a (rdT S W (fun σ h => tst (ev C u σ h)))) (hb : PT X b (rdT S W (fun σ h => tst (ev C v σ h)))) : PT X (.IfExp t a b pos) (rdT S W (fun σ h => tst (ev C (.ife x u v) σ h))) := by
  refine PT.weak (pt_ifExp ht ha hb) fun τ H Q ⟨ρ, σ, h, rs, mo, q⟩ => ?_
  have q : Out S (fun _ (a b : Bool) => a = b) W ρ ((tst (ev C x σ h)).bind fun k h1 => if k = true then tst (ev C u σ h1) else tst (ev C v σ h1)) τ Q := by
    have e : tst (ev C (.ife x u v) σ h) = ((tst (ev C x σ h)).bind fun k h1 => if k = true then tst (ev C u σ h1) else tst (ev C v σ h1)) := by
      show RE.bind (RE.bind (tst (ev C x σ h)) _) _ = _
      cases tst (ev C x σ h) with
      | bad => rfl
      | exc _ _ _ => rfl
      | ok k h1 => cases k <;> rfl
    rw [← e]; exact q
  refine rd.mono (out_bind (R := fun _ (a b : Bool) => a = b) (f := fun σ h => tst (ev C x σ h)) rs mo q) fun k H1 ⟨ρ2, h1, k', le, m1, e, o1⟩ => ?_
  subst e
  cases k' with
  | true => exact ⟨ρ2, σ, h1, rs.le le, m1, o1⟩
  | false => exact ⟨ρ2, σ, h1, rs.le le, m1, o1⟩
end HA

namespace HA
open PySem PySem.Spec PyProof.Rows L2
variable {S : Fx} {W : WX} {C : Cf} {X : Cx} {c : Cc}
/-- what one sub-expression's compiling gives -/
abbrev Sub (S : Fx) (W : WX) (C : Cf) (X : Cx) (f : Expr → Option E) : Prop := ∀ e u, f e = some u → PE X e (rdE S W (ev C u)) ∧ PT X e (rdT S W (fun σ h => tst (ev C u σ h)))

/-! ### lists of expressions -/
theorem noStar_any {env : Env} {pos : Pos} : ∀ {es : List Expr}, (∀ e ∈ es, isStar e = false) → (backTo pos (starEach es env)).any (·.1) = false
  | [], _ => rfl
  | e :: es, h => by
    rw [starEach_plain (h e List.mem_cons_self)]
    show (false || _) = false
    rw [Bool.false_or]
    exact noStar_any fun e' he => h e' (List.mem_cons_of_mem _ he)
theorem cAs_ok {f : Expr → Option E} (hf : Sub S W C X f) : ∀ (es : List Expr) (u : Es), cAs f es = some u → (∀ e ∈ es, isStar e = false) ∧ PA X es (rdA S W (evs C u))
  | [], _, e => by
    cases e
    exact ⟨(fun _ h => by cases h), pa_nilS⟩
  | a :: es, u, e => by
    unfold cAs at e
    split at e
    · cases e
    · rename_i hs
      have hs : isStar a = false := by simpa using hs
      split at e
      · rename_i x xs ex exs
        cases e
        obtain ⟨h1, h2⟩ := cAs_ok hf es xs exs
        refine ⟨fun e' he => ?_, pa_consS (hf a x ex).1 h2 hs⟩
        rcases List.mem_cons.mp he with rfl | he
        · exact hs
        · exact h1 e' he
      · cases e
theorem cEs_ok {f : Expr → Option E} (hf : Sub S W C X f) : ∀ (es : List Expr) (u : Es), cEs f es = some u → PA X es (rdA S W (evs C u))
  | [], _, e => by
    cases e
    exact pa_nilS
  | a :: es, u, e => by
    unfold cEs at e
    split at e
    · rename_i q; cases q
    · rename_i e' p r q
      cases q
      split at e
      · rename_i x xs ex exs
        cases e
        exact pa_starS (hf _ x ex).1 (cEs_ok hf _ xs exs)
      · cases e
    · rename_i e' r hn q
      cases q
      have hs : isStar a = false := by
        cases a <;> first | rfl | exact (hn _ _ rfl).elim
      split at e
      · rename_i x xs ex exs
        cases e
        exact pa_consS (hf _ x ex).1 (cEs_ok hf _ xs exs) hs
      · cases e
theorem pk_consS {nm : Option Str} {kpos : Pos} {e : Expr} {kws : List Keyword} {fa : Sl → Hh → RE Va} {fr : Sl → Hh → RE (List Va)} (ha : PE X e (rdE S W fa)) (hr : PK X kws (rdA S W fr)) :
    PK X (⟨nm, e, kpos⟩ :: kws) (rdA S W fun σ h => (fa σ h).bind fun x h1 => (fr σ h1).bind fun xs h2 => .ok (x :: xs) h2) := by
  refine ⟨fun pos pins s τ H Q I ⟨ρ, σ, h, rs, mo, o⟩ => (pk_cons ha hr).run pos pins s τ H Q I ?_⟩
  refine rd.mono (out_bind rs mo o) fun x H1 ⟨ρ2, h1, a, le, m1, ra, o1⟩ => ?_
  refine rd.mono (out_bind (rs.le le) m1 o1) fun xs H2 ⟨ρ3, h2, b, le2, m2, rb, o2⟩ => ?_
  exact o2 ρ3 (x :: xs) H2 .refl m2 (.cons (ra.le le2) rb)
theorem cKs_ok {f : Expr → Option E} (hf : Sub S W C X f) : ∀ (ks : List Keyword) (u : Es), cKs f ks = some u → (∀ k ∈ ks, k.arg.isSome = true) ∧ PK X ks (rdA S W (evs C u))
  | [], _, e => by
    cases e
    refine ⟨(fun _ h => by cases h), ⟨fun pos pins s τ H Q I ⟨ρ, σ, h, rs, mo, o⟩ => pk_nil.run pos pins s τ H Q I (o ρ [] H .refl mo .nil)⟩⟩
  | k :: ks, u, e => by
    unfold cKs at e
    split at e
    · cases e
    · rename_i nm hn
      split at e
      · rename_i x xs ex exs
        cases e
        obtain ⟨h1, h2⟩ := cKs_ok hf ks xs exs
        obtain ⟨arg, value, kp⟩ := k
        refine ⟨fun e' he => ?_, pk_consS (hf value x ex).1 h2⟩
        rcases List.mem_cons.mp he with rfl | he
        · show Option.isSome arg = true
          rw [show arg = some nm from hn]; rfl
        · exact h1 e' he
      · cases e
theorem kwAll {env : Env} {pos : Pos} : ∀ {ks : List Keyword}, (∀ k ∈ ks, k.arg.isSome = true) →
    (backToKw pos (keywordEach ks env)).all (·.1.isSome) = true ∧ (backToKw pos (keywordEach ks env)).any (·.1.isNone) = false ∧ (backToKw pos (keywordEach ks env)).filterMap (·.1) = ks.filterMap (·.arg)
  | [], _ => ⟨rfl, rfl, rfl⟩
  | ⟨arg, v, p⟩ :: ks, h => by
    obtain ⟨h1, h2, h3⟩ := kwAll (env := env) (pos := pos) fun k hk => h k (List.mem_cons_of_mem _ hk)
    have h0 : arg.isSome = true := h _ List.mem_cons_self
    obtain ⟨a, rfl⟩ := Option.isSome_iff_exists.mp h0
    refine ⟨?_, ?_, ?_⟩
    · show (true && _) = true
      rw [Bool.true_and]; exact h1
    · show (false || _) = false
      rw [Bool.false_or]; exact h2
    · show a :: List.filterMap (·.1) (backToKw pos (keywordEach ks env)) = a :: ks.filterMap (·.arg)
      rw [h3]

/-! ### calls -/
theorem run_fnG {k : Nat} {f : Addr} {fd : FuncData} {ps : List Str} {sp : Sp} {E : XK} {CX : CXT} {args : Args} {σ : L2.St} {pins : List (Addr × Obj)} {H : Hp} {s : Shared} {Q : VK} {us : List Value} {vs : List V} (F : FnG X.prog X.w X.K X.mg X.base CX k f fd ps sp) (hr : Room k X.A) (hgd : X.A.guards = some [])
    (hx : PassesAt CX X σ E) (hb : BindsTo s fd args (ps.zip us)) (I : Inv X pins σ H s) (r : Vals vs us) (h : sp vs H Q E) : wpAny (model X.prog X.w) X.A (call (.ref f) args.pos args.kw) (EP X pins σ Q) X.xe s := by
  refine wpAny_call (codeAny_mono (F.run X.A X.stack s H ⟨args.pos, args.kw⟩ us vs Q E hr hgd I.env0 (by cases args; exact hb) r h) fun r s' hq => ?_)
  cases r with
  | error e => exact hx pins H s e s' I hq
  | ok fl =>
    cases fl with
    | ret u => exact I.after hq
    | next => exact False.elim hq
    | brk => exact False.elim hq
    | cont => exact False.elim hq
/-- from our Out to the callee's promise -/
theorem spG_of {call : List Va → Hh → RE Va} {np : Nat} {ρ : List Addr} {h : Hh} {H : Hp} {as : List Va} {vs : List V} {τ : L2.St} {Q : VK} (m : Mo S ρ h H) (r : RVs S ρ as vs) (hl : vs.length = np) (o : Out S (RV S) W ρ (call as h) τ Q) : spG S call np vs H Q (fun cl d H => W cl d τ H) := by
  refine ⟨hl, ρ, h, as, m, r, ?_⟩
  cases q : call as h with
  | ok v h1 => rw [q] at o; exact o
  | exc c' d h1 => rw [q] at o; exact o
  | bad => rw [q] at o; exact o
theorem evs_len {C : Cf} : ∀ {f : Expr → Option E} (es : List Expr) (u : Es), cAs f es = some u → ∀ σ h vs h', evs C u σ h = .ok vs h' → vs.length = es.length
  | f, [], u, e, σ, h, vs, h', q => by
    cases e
    cases q; rfl
  | f, a :: es, u, e, σ, h, vs, h', q => by
    unfold cAs at e
    split at e
    · cases e
    · split at e
      · rename_i x xs ex exs
        cases e
        have q : ((ev C x σ h).bind fun x h1 => (evs C xs σ h1).bind fun ys h2 => .ok (x :: ys) h2) = .ok vs h' := q
        cases q1 : ev C x σ h with
        | bad => rw [q1] at q; cases q
        | exc _ _ _ => rw [q1] at q; cases q
        | ok y h1 =>
          rw [q1] at q
          have q : ((evs C xs σ h1).bind fun ys h2 => RE.ok (y :: ys) h2) = .ok vs h' := q
          cases q2 : evs C xs σ h1 with
          | bad => rw [q2] at q; cases q
          | exc _ _ _ => rw [q2] at q; cases q
          | ok ys h2 =>
            rw [q2] at q
            cases q
            rw [List.length_cons, List.length_cons, evs_len es xs exs σ h1 ys _ q2]
      · cases e
theorem evs_lenK {C : Cf} : ∀ {f : Expr → Option E} (ks : List Keyword) (u : Es), cKs f ks = some u → ∀ σ h vs h', evs C u σ h = .ok vs h' → vs.length = (ks.filterMap (·.arg)).length
  | f, [], u, e, σ, h, vs, h', q => by
    cases e
    cases q; rfl
  | f, a :: es, u, e, σ, h, vs, h', q => by
    unfold cKs at e
    split at e
    · cases e
    · rename_i nm hn
      split at e
      · rename_i x xs ex exs
        cases e
        have q : ((ev C x σ h).bind fun x h1 => (evs C xs σ h1).bind fun ys h2 => .ok (x :: ys) h2) = .ok vs h' := q
        rw [List.filterMap_cons, hn]
        cases q1 : ev C x σ h with
        | bad => rw [q1] at q; cases q
        | exc _ _ _ => rw [q1] at q; cases q
        | ok y h1 =>
          rw [q1] at q
          have q : ((evs C xs σ h1).bind fun ys h2 => RE.ok (y :: ys) h2) = .ok vs h' := q
          cases q2 : evs C xs σ h1 with
          | bad => rw [q2] at q; cases q
          | exc _ _ _ => rw [q2] at q; cases q
          | ok ys h2 =>
            rw [q2] at q
            cases q
            show (y :: ys).length = (nm :: es.filterMap (·.arg)).length
            rw [List.length_cons, List.length_cons, evs_lenK es xs exs σ h1 ys _ q2]
      · cases e
/-- out_bind, where what came is remembered -/
theorem out_bindE {α β γ δ : Type} {R : List Addr → α → β → Prop} {R' : List Addr → γ → δ → Prop} {f : Sl → Hh → RE α} {k : α → Hh → RE γ} {ρ : List Addr} {σ : Sl} {h : Hh} {τ : L2.St} {H : Hp} {Q : δ → Hp → Prop}
    (rs : RS S ρ σ τ) (mo : Mo S ρ h H) (o : Out S R' W ρ ((f σ h).bind k) τ Q) :
    rd S R W f τ H (fun x H1 => ∃ ρ2 h1 a, Le ρ ρ2 ∧ Mo S ρ2 h1 H1 ∧ R ρ2 a x ∧ f σ h = .ok a h1 ∧ Out S R' W ρ2 (k a h1) τ Q) := by
  refine ⟨ρ, σ, h, rs, mo, ?_⟩
  cases q : f σ h with
  | ok v h1 =>
    rw [q] at o
    exact fun ρ' x H' le m r => ⟨ρ', h1, v, le, m, r, rfl, Out.le (r := k v h1) o le⟩
  | exc c d h1 =>
    rw [q] at o
    exact o
  | bad =>
    rw [q] at o
    exact o.elim
theorem pe_callS {x : Str} {g : Nat} {ps : List Str} {es : List Expr} {u : Es} {f : Expr → Option E} {p pos : Pos} (G : Good S W C X c) (hf : Sub S W C X f) (hg : isGl c x = true) (hl : c.G.lookup x = some (.df g ps)) (ha : cAs f es = some u) (hn : es.length = ps.length) :
    PE X (.Call (.Name x p) es [] pos) (rdE S W (ev C (.call g u))) := by
  obtain ⟨fa, fd, k, hm, hk, hr, F, hb, _⟩ := (G.calls x g ps hl).ex
  obtain ⟨g1, g2, _⟩ := G.gl hg
  obtain ⟨hs, hA⟩ := cAs_ok hf es u ha
  refine ⟨fun pins s τ H Q I ⟨ρ, σ, h, rs, mo, o⟩ => ?_⟩
  refine wpAny_Call_Name_kw (ld_glob I g1 hm ?_ g2)
  have fin : ∀ {us : List Value} {s1 : Shared} {vs : List V} {H1 : Hp}, Inv X pins τ H1 s1 → Vals vs us → (∃ ρ2 h1 a, Le ρ ρ2 ∧ Mo S ρ2 h1 H1 ∧ RVs S ρ2 a vs ∧ evs C u σ h = .ok a h1 ∧ Out S (RV S) W ρ2 (C.call g a h1) τ Q) → wpAny (model X.prog X.w) X.A (call (.ref fa) us) (EP X pins τ Q) X.xe s1 := fun {us s1 vs H1} I1 r ⟨ρ2, h1, a, le, m1, ra, q1, o1⟩ => by
    have n1 : vs.length = ps.length := by rw [← Paired.length ra, evs_len es u ha σ h a h1 q1, hn]
    refine run_fnG (args := ⟨us, []⟩) F hr G.guards (G.takes τ) ?_ I1 r (spG_of m1 ra n1 o1)
    have := hb s1 us I1.kIn (by rw [List.append_nil, ← r.length]; exact n1)
    rwa [List.append_nil] at this
  cases es with
  | nil =>
    refine PySem.W.callWith_K0 I.kIn hk ?_
    cases ha
    exact fin I .nil ⟨ρ, h, [], .refl, mo, .nil, rfl, o⟩
  | cons e es =>
    refine PySem.W.callWith_K (h₀ := X.base) I.ok.mod.kin hk (thn (hA.run pos pins s τ H _ I (out_bindE rs mo o)) fun us s1 ⟨vs, H1, I1, r, w⟩ => ⟨I1.kIn, fin I1 r w⟩) (starEach_plain (hs e List.mem_cons_self)) (noStar_any fun e' he => hs e' (List.mem_cons_of_mem _ he))
end HA

namespace HA
open PySem PySem.Spec PyProof.Rows L2
variable {S : Fx} {W : WX} {C : Cf} {X : Cx} {c : Cc}

/-! ### keywords -/
theorem mapO_rel {α β : Type} {F : α → β → Prop} {as : List α} {us : List β} (r : Paired F as us) : ∀ (pm : List Nat) (bs : List α), permA as pm = some bs → ∃ zs, permA us pm = some zs ∧ Paired F bs zs
  | [], bs, e => by
    cases e
    exact ⟨[], rfl, .nil⟩
  | i :: pm, bs, e => by
    unfold permA mapO at e
    split at e
    · rename_i y q
      split at e
      · rename_i ys q2
        cases e
        obtain ⟨u, h1, h2⟩ := Paired.get r q
        obtain ⟨zs, h3, h4⟩ := mapO_rel r pm ys q2
        refine ⟨u :: zs, ?_, .cons h2 h4⟩
        show (match us[i]? with
          | some y => match mapO (fun i => us[i]?) pm with
            | some ys => some (y :: ys)
            | none => none
          | none => none) = some (u :: zs)
        rw [h1, show mapO (fun i => us[i]?) pm = some zs from h3]
      · cases e
    · cases e
theorem mapO_len {α β : Type} {f : α → Option β} : ∀ {l : List α} {r : List β}, mapO f l = some r → r.length = l.length
  | [], _, e => by cases e; rfl
  | x :: l, r, e => by
    unfold mapO at e
    split at e
    · split at e
      · rename_i ys q
        cases e
        rw [List.length_cons, List.length_cons, mapO_len q]
      · cases e
    · cases e
theorem pe_callkS {x : Str} {g : Nat} {ps : List Str} {es : List Expr} {kws : List Keyword} {u v : Es} {pm : List Nat} {f : Expr → Option E} {p pos : Pos} (G : Good S W C X c) (hf : Sub S W C X f) (hg : isGl c x = true) (hl : c.G.lookup x = some (.df g ps))
    (ha : cAs f es = some u) (hk : cKs f kws = some v) (hp : kwPerm ps es.length (kws.filterMap (·.arg)) = some pm) (hK : (x, es.length, kws.filterMap (·.arg)) ∈ c.KW) (hps : pm.length = ps.length) :
    PE X (.Call (.Name x p) es kws pos) (rdE S W (ev C (.callk g u v pm))) := by
  obtain ⟨fa, fd, k, hm, hkp, hr, F, _, hkw⟩ := (G.calls x g ps hl).ex
  obtain ⟨g1, g2, _⟩ := G.gl hg
  obtain ⟨hs, hA⟩ := cAs_ok hf es u ha
  obtain ⟨hks, hKw⟩ := cKs_ok hf kws v hk
  obtain ⟨k1, k2, k3⟩ := kwAll (env := X.env) (pos := pos) hks
  refine ⟨fun pins s τ H Q I ⟨ρ, σ, h, rs, mo, o⟩ => ?_⟩
  refine wpAny_Call_Name_kw (ld_glob I g1 hm ?_ g2)
  have fin : ∀ {us ws : List Value} {s2 : Shared} {vs zs : List V} {H2 : Hp} {ρ2 ρ3 : List Addr} {h1 h2 : Hh} {a b : List Va}, Inv X pins τ H2 s2 → Vals vs us → Vals zs ws → Le ρ2 ρ3 → Mo S ρ3 h2 H2 → RVs S ρ2 a vs → RVs S ρ3 b zs → evs C u σ h = .ok a h1 → evs C v σ h1 = .ok b h2 →
      Out S (RV S) W ρ3 (match permA (a ++ b) pm with | some us => C.call g us h2 | none => .bad) τ Q → wpAny (model X.prog X.w) X.A (call (.ref fa) us ((kws.filterMap (·.arg)).zip ws)) (EP X pins τ Q) X.xe s2 := by
    intro us ws s2 vs zs H2 ρ2 ρ3 h1 h2 a b I2 r rz le2 m2 ra rb q1 q2 o2
    split at o2
    · rename_i bs q
      obtain ⟨ys, e1, r1⟩ := mapO_rel (Paired.app (RVs.le le2 ra) rb) pm bs q
      obtain ⟨zv, e2, r2⟩ := mapO_rel (r.append rz) pm ys e1
      have n1 : us.length = es.length := by rw [← r.length, ← Paired.length ra, evs_len es u ha σ h a h1 q1]
      have n2 : ws.length = (kws.filterMap (·.arg)).length := by rw [← rz.length, ← Paired.length rb, evs_lenK kws v hk σ h1 b h2 q2]
      have n3 : ys.length = ps.length := by rw [mapO_len e1, hps]
      exact run_fnG (args := ⟨us, (kws.filterMap (·.arg)).zip ws⟩) F hr G.guards (G.takes τ) (hkw es.length _ hK pm s2 us ws zv hp I2.kIn n1 n2 e2) I2 r2 (spG_of m2 r1 n3 o2)
    · exact o2.elim
  cases es with
  | nil =>
    cases ha
    refine PySem.W.callWith_KW0 (h₀ := X.base) I.ok.mod.kin hkp k1 (thn (hKw.run pos pins s τ H _ I (out_bindE (f := evs C v) rs mo o)) fun ws s2 ⟨zs, H2, I2, rz, ρ3, h2, b, le2, m2, rb, q2, o2⟩ => ⟨I2.kIn, ?_⟩) (by rw [k2]; rfl)
    rw [k3]
    exact fin I2 .nil rz le2 m2 .nil rb rfl q2 o2
  | cons e es =>
    refine PySem.W.callWith_KW (h₀ := X.base) I.ok.mod.kin hkp k1 (thn (hA.run pos pins s τ H _ I (out_bindE (f := evs C u) rs mo o)) fun us s1 ⟨vs, H1, I1, r, ρ2, h1, a, le, m1, ra, q1, o1⟩ => ?_) (by rw [k2, noStar_any hs]; rfl) (starEach_plain (hs e List.mem_cons_self))
    refine thn (hKw.run pos pins s1 τ H1 _ I1 (out_bindE (f := evs C v) (rs.le le) m1 o1)) fun ws s2 ⟨zs, H2, I2, rz, ρ3, h2, b, le2, m2, rb, q2, o2⟩ => ⟨I2.kIn, ?_⟩
    rw [k3]
    exact fin I2 r rz le2 m2 ra rb q1 q2 o2

/-! ### built-ins -/
theorem tCB_of {g : List Va → Hh → RE Va} {r : List V → Hp → VK → Prop} {f : Sl → Hh → RE (List Va)} (hc : CallS S g r) {τ : L2.St} {H : Hp} {Q : VK} (h : rdE S W (fun σ h => (f σ h).bind g) τ H Q) : tCB r (rdA S W f) τ H Q := by
  obtain ⟨ρ, σ, h, rs, mo, o⟩ := h
  refine rd.mono (out_bind rs mo o) fun x H1 ⟨ρ2, h1, a, le, m1, ra, o1⟩ => ?_
  exact hc ρ2 h1 H1 a x W τ Q m1 ra o1
theorem bName_used (b : Bi) : bName b ∈ usedB := by cases b <;> simp [usedB, bName]
theorem biOf_ok {x : Str} {b : Bi} (hb : biOf c x = some b) : isB c x = true ∧ bName b = x := by
  unfold biOf at hb
  split at hb
  · rename_i hB
    exact ⟨hB, of_decide_eq_true (List.find?_some (p := fun b => decide (bName b = x)) hb)⟩
  · cases hb
theorem pe_biS {x : Str} {b : Bi} {e : Expr} {es : List Expr} {u : Es} {f : Expr → Option E} {p pos : Pos} (G : Good S W C X c) (hf : Sub S W C X f) (hb : biOf c x = some b) (ha : cAs f (e :: es) = some u) :
    PE X (.Call (.Name x p) (e :: es) [] pos) (rdE S W (ev C (.bi b u))) := by
  obtain ⟨hB, rfl⟩ := biOf_ok hb
  obtain ⟨hs, hA⟩ := cAs_ok hf _ u ha
  obtain ⟨g1, g2, g3, g4⟩ := G.bl hB (bName_used b)
  refine PE.weak (pe_bi b G.calm G.guards G.units g1 g4 hA (starEach_plain (hs e List.mem_cons_self)) (noStar_any fun e' he => hs e' (List.mem_cons_of_mem _ he))) fun τ H Q h => ?_
  rw [G.k]
  refine tCB_of (g := biF C.ns b) ?_ h
  rw [G.ns]
  exact cs_bi b
/-! ### methods -/
theorem starPlain_all {env : Env} {pos : Pos} : ∀ {es : List Expr}, (∀ e ∈ es, isStar e = false) → (backTo pos (starEach es env)).all (fun x => !x.1) = true
  | [], _ => rfl
  | e :: es, h => by
    rw [starEach_plain (h e List.mem_cons_self)]
    show (true && _) = true
    rw [Bool.true_and]
    exact starPlain_all fun e' he => h e' (List.mem_cons_of_mem _ he)
theorem attrBase {o : Expr} {nm : Str} {env : Env} (h : baseOk o = true) : attributeBase o nm env (eval o env) = eval o env := by
  cases o <;> first
    | rfl
    | (rename_i f as ks p
       cases f <;> first
         | rfl
         | (cases as <;> first
             | (cases ks <;> first
                 | (cases h; done)
                 | rfl)
             | rfl))
theorem mthBM {m : Mt} {k : Kd} {fo : Sl → Hh → RE Va} {fa : Sl → Hh → RE (List Va)} {ρ : List Addr} {σ : Sl} {h : Hh} {τ : L2.St} {H : Hp} {Q : VK}
    (rs : RS S ρ σ τ) (mo : Mo S ρ h H) (hk : ∀ x h1, fo σ h = .ok x h1 → kdOf x h1 = some k)
    (o : Out S (RV S) W ρ ((fo σ h).bind fun x h1 => (fa σ h1).bind fun vs h2 => mtK m k x vs h2) τ Q) : tBM S.K k.T (rMt S.K m k) (rdE S W fo) (rdA S W fa) τ H Q := by
  refine rd.mono (out_bindE rs mo o) fun x H1 ⟨ρ2, h1, a, le, m1, ra, e1, o1⟩ => ⟨kdOf_ok m1 ra (hk a h1 e1), ?_⟩
  refine rd.mono (out_bind (rs.le le) m1 o1) fun ys H2 ⟨ρ3, h2, b, le2, m2, rb, o2⟩ => ?_
  exact ms_all m k ρ3 h2 H2 a x b ys W τ Q m2 (ra.le le2) rb o2
theorem mthBM0 {m : Mt} {k : Kd} {fo : Sl → Hh → RE Va} {ρ : List Addr} {σ : Sl} {h : Hh} {τ : L2.St} {H : Hp} {Q : VK}
    (rs : RS S ρ σ τ) (mo : Mo S ρ h H) (hk : ∀ x h1, fo σ h = .ok x h1 → kdOf x h1 = some k)
    (o : Out S (RV S) W ρ ((fo σ h).bind fun x h1 => mtK m k x [] h1) τ Q) : tBM0 S.K k.T (rMt S.K m k) (rdE S W fo) τ H Q := by
  refine rd.mono (out_bindE rs mo o) fun x H1 ⟨ρ2, h1, a, le, m1, ra, e1, o1⟩ => ⟨kdOf_ok m1 ra (hk a h1 e1), ?_⟩
  exact ms_all m k ρ2 h1 H1 a x [] [] W τ Q m1 ra .nil o1
/-- some kind for which the method stands -/
def kdFor : Mt → Kd
  | .get | .update => .d
  | .join | .split => .s
  | _ => .l
theorem mtOf_ok {x : Str} {m : Mt} (h : mtOf x = some m) : m.nm = x ∧ mtOk m (kdFor m) = true := by
  have h1 : m.nm = x := of_decide_eq_true (List.find?_some (p := fun m => decide (Mt.nm m = x)) h)
  have h2 := List.mem_of_find?_eq_some h
  refine ⟨h1, ?_⟩
  cases m <;> first
    | rfl
    | (exfalso; revert h2; decide)
theorem pe_mthS {o : Expr} {m : Str} {mm : Mt} {as : List Expr} {u : E} {us : Es} {f : Expr → Option E} {apos cpos : Pos} (G : Good S W C X c) (hf : Sub S W C X f) (hb : baseOk o = true) (hl : apos.endLine = cpos.line) (hlen : as.length < 30) (hm : mtOf m = some mm) (ho : f o = some u) (ha : cAs f as = some us)
    (h0 : as.isEmpty = true → mm = .pop ∨ mm = .clear) : PE X (.Call (.Attribute o m apos) as [] cpos) (rdE S W (ev C (.mth mm u us))) := by
  obtain ⟨rfl, hok⟩ := mtOf_ok hm
  obtain ⟨hs, hA⟩ := cAs_ok hf _ us ha
  have hO := (hf o u ho).1
  have hline : (apos.endLine == cpos.line) = true := by rw [hl]; exact beq_self_eq_true _
  have hu : X.A.units + 70 < cLine := by have := G.units; omega
  have kk := G.k
  have rule : ∀ k, mtOk mm k = true → ∀ (pins : List (Addr × Obj)) (s : Shared) (τ : L2.St) (H : Hp) (Q : VK) (ρ : List Addr) (σ : Sl) (h : Hh), Inv X pins τ H s → RS S ρ σ τ → Mo S ρ h H → (∀ x h1, ev C u σ h = .ok x h1 → kdOf x h1 = some k) →
      Out S (RV S) W ρ ((ev C u σ h).bind fun x h1 => (evs C us σ h1).bind fun vs h2 => mtK mm k x vs h2) τ Q → wpAny (model X.prog X.w) X.A (eval (.Call (.Attribute o mm.nm apos) as [] cpos) X.env) (EP X pins τ Q) X.xe s := by
    intro k ok pins s τ H Q ρ σ h I rs mo hk o1
    cases as with
    | nil =>
      cases ha
      refine (pe_mth0 mm k ok (h0 rfl) hO (attrBase hb) hline).run pins s τ H Q I ?_
      rw [kk]
      exact mthBM0 rs mo hk o1
    | cons e es =>
      have h1 : (backToKw cpos (keywordEach [] X.env)).all (fun x => x.1.isSome) = true := rfl
      refine (pe_mth hu mm k ok hO hA (attrBase hb) ?_ hline (starEach_plain (hs e List.mem_cons_self)) (noStar_any fun e' he => hs e' (List.mem_cons_of_mem _ he))).run pins s τ H Q I ?_
      · rw [starPlain_all hs, h1, Bool.true_and, Bool.true_and]
        exact decide_eq_true (by simpa using hlen)
      · rw [kk]
        exact mthBM rs mo hk o1
  refine ⟨fun pins s τ H Q I ⟨ρ, σ, h, rs, mo, o1⟩ => ?_⟩
  have o1 : Out S (RV S) W ρ ((ev C u σ h).bind fun x h1 => match kdOf x h1 with
    | some k => if mtOk mm k = true then (evs C us σ h1).bind fun vs h2 => mtK mm k x vs h2 else .bad
    | none => .bad) τ Q := o1
  cases q : ev C u σ h with
  | bad => rw [q] at o1; exact o1.elim
  | exc cc d h1 =>
    refine rule (kdFor mm) hok pins s τ H Q ρ σ h I rs mo (fun x h1 e => by rw [q] at e; cases e) ?_
    rw [q] at o1 ⊢
    exact o1
  | ok x h1 =>
    rw [q] at o1
    have o1 : Out S (RV S) W ρ (match kdOf x h1 with
      | some k => if mtOk mm k = true then (evs C us σ h1).bind fun vs h2 => mtK mm k x vs h2 else .bad
      | none => .bad) τ Q := o1
    cases qk : kdOf x h1 with
    | none => rw [qk] at o1; exact o1.elim
    | some k =>
      rw [qk] at o1
      have o1 : Out S (RV S) W ρ (if mtOk mm k = true then (evs C us σ h1).bind fun vs h2 => mtK mm k x vs h2 else .bad) τ Q := o1
      split at o1
      · rename_i ok
        refine rule k ok pins s τ H Q ρ σ h I rs mo (fun x' h1' e => by rw [q] at e; cases e; exact qk) ?_
        rw [q]
        exact o1
      · exact o1.elim
end HA

namespace HA
open PySem PySem.Spec PyProof.Rows L2
variable {S : Fx} {W : WX} {C : Cf} {X : Cx} {c : Cc}

/-! ### isinstance -/
def tyStr : Ty → String
  | .list => "list" | .tuple => "tuple" | .dict => "dict" | .int => "int" | .bool => "bool" | .str => "str" | .cls _ => "?"
def tyStrO : Option Ty → String
  | some t => tyStr t
  | none => "NoneType"
def isTyO (k : Option Ty) (t : Ty) : Bool := match k with
  | some k => decide (k = t) || (decide (k = .bool) && decide (t = .int))
  | none => false
theorem isTy_eq (a : Va) (h : Hh) (t : Ty) : isTy a h t = isTyO (tyOf a h) t := rfl
theorem kit_tab (k : Option Ty) (t : Ty) (hk : ∀ c, k ≠ some (.cls c)) (ht : ∀ c, t ≠ .cls c) : kitB (tyStrO k) (tyStr t) = some (isTyO k t) := by
  cases k with
  | none => cases t <;> first | decide +kernel | exact absurd rfl (ht _)
  | some k => cases k <;> cases t <;> first | decide +kernel | exact absurd rfl (ht _) | exact absurd rfl (hk _)
theorem kit_all {K : PySem.W.Frag} (k : Option Ty) (hk : ∀ c, k ≠ some (.cls c)) : ∀ (ts : List Ty), (∀ t ∈ ts, ∀ c, t ≠ .cls c) → PySem.W.kitAny K (.type (tyStrO k)) (ts.map fun t => .type (tyStr t)) = some (ts.any (isTyO k))
  | [], _ => rfl
  | t :: ts, h => by
    refine kitAny_cons (b := isTyO k t) (kit_ty (kit_tab k t hk (h t List.mem_cons_self))) (fun e => ?_) fun e => ?_
    · show _ = some (isTyO k t || ts.any (isTyO k))
      rw [e, Bool.false_or]
      exact kit_all k hk ts fun t' h' => h t' (List.mem_cons_of_mem _ h')
    · show (isTyO k t || ts.any (isTyO k)) = true
      rw [e]; rfl
theorem tyOf_ok {ρ : List Addr} {h : Hh} {H : Hp} {a : Va} {x : V} (m : Mo S ρ h H) (r : RV S ρ a x) (ok : tyOk a h = true) : TyX S.K H x (.type (tyStrO (tyOf a h))) ∧ ∀ c, tyOf a h ≠ some (.cls c) := by
  cases a with
  | non => cases r; exact ⟨.base .non, fun c e => by cases e⟩
  | bl b => cases r; exact ⟨.base (.bl b), fun c e => by cases e⟩
  | int i => cases r; exact ⟨.base (.int i), fun c e => by cases e⟩
  | str i => cases r; exact ⟨.base (.str i), fun c e => by cases e⟩
  | scr => cases ok
  | ref l =>
    obtain ⟨p, e1, rfl⟩ := r
    cases q : h[l]? with
    | none =>
      have ok : (match h[l]? with
        | some (.xd _) => false
        | some _ => true
        | none => false) = true := ok
      rw [q] at ok; cases ok
    | some ob =>
      have ok : (match h[l]? with
        | some (.xd _) => false
        | some _ => true
        | none => false) = true := ok
      have et : tyOf (.ref l) h = (match h[l]? with
        | some (.lst _) => some .list
        | some (.tup _) => some .tuple
        | some (.dK _) => some .dict
        | some (.dT _) => some .dict
        | _ => none) := rfl
      rw [q] at ok et
      cases ob with
      | lst xs => obtain ⟨vs, g, _⟩ := m.lst e1 q; rw [et]; exact ⟨.base (.lst g), fun c e => by cases e⟩
      | tup xs => obtain ⟨vs, g, _⟩ := m.tup e1 q; rw [et]; exact ⟨.base (.tup g), fun c e => by cases e⟩
      | dK xs => obtain ⟨vs, g, _⟩ := m.dK e1 q; rw [et]; exact ⟨.base (.dK g), fun c e => by cases e⟩
      | dT xs => obtain ⟨vs, g, _⟩ := m.dT e1 q; rw [et]; exact ⟨.base (.dT g), fun c e => by cases e⟩
      | xd xs => cases ok
theorem tyName_str (t : Ty) (h : ∀ c, t ≠ .cls c) : bootBuiltins (tyName t) = some (.type (tyStr t)) := by
  cases t <;> first | decide +kernel | exact absurd rfl (h _)
theorem cTy_ok {e : Expr} {t : Ty} (hG : ∀ x ∈ tyAll.map tyName, isB c x = true → Gl X x ∧ X.mg x = none) (h : cTy c e = some t) : isStar e = false ∧ (∀ c, t ≠ .cls c) ∧ PE X e (tC (.ty (tyStr t))) := by
  unfold cTy at h
  split at h
  · rename_i x p
    split at h
    · rename_i hB
      have h1 : tyName t = x := of_decide_eq_true (List.find?_some (p := fun t => decide (tyName t = x)) h)
      have h2 := List.mem_of_find?_eq_some h
      subst h1
      have nc : ∀ c, t ≠ .cls c := fun c e => by subst e; revert h2; simp [tyAll]
      obtain ⟨g1, g2⟩ := hG _ (List.mem_map_of_mem h2) hB
      refine ⟨rfl, nc, pe_bltn g1 g2 (tyName_str t nc) rfl ?_ ?_⟩
      · cases t <;> first | decide | exact absurd rfl (nc _)
      · cases t <;> first | decide | exact absurd rfl (nc _)
    · cases h
  · cases h
theorem cTyL_ok (hG : ∀ x ∈ tyAll.map tyName, isB c x = true → Gl X x ∧ X.mg x = none) : ∀ {es : List Expr} {ts : List Ty}, mapO (cTy c) es = some ts → (∀ t ∈ ts, ∀ c, t ≠ .cls c) ∧ PA X es (fun σ H Q => Q (ts.map fun t => .ty (tyStr t)) H)
  | [], ts, e => by
    cases e
    exact ⟨(fun _ h => by cases h), pa_nil⟩
  | a :: es, ts, e => by
    unfold mapO at e
    split at e
    · rename_i t et
      split at e
      · rename_i ts' ets
        cases e
        obtain ⟨s1, h1, h2⟩ := cTy_ok hG et
        obtain ⟨h3, h4⟩ := cTyL_ok hG ets
        refine ⟨fun t' ht => ?_, PA.weak (pa_cons h2 h4 (starEach_plain s1)) fun τ H Q h => h⟩
        rcases List.mem_cons.mp ht with rfl | ht
        · exact h1
        · exact h3 t' ht
      · cases e
    · cases e
theorem clsV_all : ∀ ts : List Ty, Paired ClsV (ts.map fun t => V.ty (tyStr t)) (ts.map fun t => Value.type (tyStr t))
  | [] => .nil
  | t :: ts => .cons (.ty _) (clsV_all ts)
theorem ty_used : ∀ x ∈ tyAll.map tyName, x ∈ usedB := by decide
theorem cTys_one {e : Expr} (h : ∀ es k p, e ≠ .Tuple es k p) : cTys c e = (match cTy c e with
    | some t => some [t]
    | none => none) := by
  cases e <;> first | rfl | exact absurd rfl (h _ _ _)
/-- isinstance(a, t) -/
theorem pe_instS {a t : Expr} {u : E} {ts : List Ty} {f : Expr → Option E} {p pos : Pos} (G : Good S W C X c) (hf : Sub S W C X f) (hB : isB c "isinstance" = true) (hs : isStar a = false) (ha : f a = some u) (ht : cTys c t = some ts) (h8 : ts.length ≤ 8) :
    PE X (.Call (.Name "isinstance" p) [a, t] [] pos) (rdE S W (ev C (.inst u ts))) := by
  obtain ⟨g1, g2, g3, g4⟩ := G.bl hB (by simp [usedB])
  have hA := (hf a u ha).1
  have hG : ∀ x ∈ tyAll.map tyName, isB c x = true → Gl X x ∧ X.mg x = none := fun x hx hb => by
    obtain ⟨a, _, _, d⟩ := G.bl hb (ty_used x hx)
    exact ⟨a, d⟩
  have kk := G.k
  by_cases hT : ∃ es k p, t = .Tuple es k p
  · obtain ⟨es, k, tp, rfl⟩ := hT
    obtain ⟨hc, hP⟩ := cTyL_ok hG (show mapO (cTy c) es = some ts from ht)
    refine PE.weak (pe_callB call_isiT g1 g4 (by decide +kernel) (pa_cons hA (pa_cons (pe_tup hP) pa_nil rfl) (starEach_plain hs)) g3 g2 (starEach_plain hs) (noStar_any fun e' he => by
      rcases List.mem_cons.mp he with rfl | he
      · rfl
      · cases he)) fun τ H Q ⟨ρ, σ, h, rs, mo, o⟩ => ?_
    refine rd.mono (out_bind rs mo o) fun x H1 ⟨ρ2, h1, b, le, m1, ra, o1⟩ => ?_
    refine ⟨by rw [List.length_map, sizeLine_eq]; omega, fun q hq => ?_⟩
    unfold instV at o1
    split at o1
    · rename_i ok
      have m2 := m1.same (same_upd (o := .tup (ts.map fun t => V.ty (tyStr t))) hq)
      obtain ⟨t1, t2⟩ := tyOf_ok m2 ra ok
      rw [kk]
      exact ⟨x, q, _, _, _, _, rfl, upd_same, clsV_all ts, t1, kit_all _ t2 ts hc, o1 ρ2 _ _ .refl m2 rfl⟩
    · exact o1.elim
  · rw [cTys_one fun es k p e => hT ⟨es, k, p, e⟩] at ht
    split at ht
    · rename_i t' et
      cases ht
      obtain ⟨s1, nc, hP⟩ := cTy_ok hG et
      refine PE.weak (pe_callB call_isi g1 g4 (by decide +kernel) (pa_cons hA (pa_cons hP pa_nil (starEach_plain s1)) (starEach_plain hs)) g3 g2 (starEach_plain hs) (noStar_any fun e' he => by
        rcases List.mem_cons.mp he with rfl | he
        · exact s1
        · cases he)) fun τ H Q ⟨ρ, σ, h, rs, mo, o⟩ => ?_
      refine rd.mono (out_bind rs mo o) fun x H1 ⟨ρ2, h1, b, le, m1, ra, o1⟩ => ?_
      unfold instV at o1
      split at o1
      · rename_i ok
        obtain ⟨t1, t2⟩ := tyOf_ok m1 ra ok
        rw [kk]
        refine ⟨x, _, _, _, _, rfl, .ty _, t1, kit_ty (kit_tab _ t' t2 nc), o1 ρ2 _ _ .refl m1 ?_⟩
        show V.bl _ = V.bl _
        rw [show [t'].any (isTy b h1) = (isTy b h1 t' || false) from rfl, Bool.or_false]
        rfl
      · exact o1.elim
    · cases ht

/-! ### subscripts -/
theorem plainIx {b : Expr} (h : isSlice b = false) : PlainIx b := by
  intro o i
  cases b <;> first | rfl | cases h
theorem pe_idxS {a b : Expr} {u v : E} {pos : Pos} (G : Good S W C X c) (ha : PE X a (rdE S W (ev C u))) (hb : PE X b (rdE S W (ev C v))) (hs : isSlice b = false) : PE X (.Subscript a b pos) (rdE S W (ev C (.idx u v))) := by
  refine PE.weak (pe_ix (ix_all (by have := G.units; omega)) ha hb (plainIx hs)) fun τ H Q h => ?_
  rw [G.k]
  exact rd_op2 op2_idx h
/-- a slice's part -/
def PartQ (Q : Option Int → Prop) : List V → Prop
  | [] => Q none
  | [v] => ∃ i, v = .int i ∧ Q (some i)
  | _ => False
theorem cPart_ok {f : Expr → Option E} (hf : Sub S W C X f) {e : Option Expr} {u : Es} (h : cPart f e = some u) :
    PO X e (fun τ H Q => rdA S W (evs C u) τ H fun vs H1 => PartQ (fun o => Q o H1) vs) := by
  cases e with
  | none =>
    cases h
    refine ⟨fun pins s τ H Q I ⟨ρ, σ, h, rs, mo, o⟩ => po_none.run pins s τ H Q I (o ρ [] H .refl mo .nil)⟩
  | some e =>
    have h : (match f e with
      | some x => some (Es.cons x .nil)
      | none => none) = some u := h
    split at h
    · rename_i x ex
      cases h
      refine ⟨fun pins s τ H Q I ⟨ρ, σ, h, rs, mo, o⟩ => (po_some (hf e x ex).1).run pins s τ H Q I ?_⟩
      refine rd.mono (out_bind (f := ev C x) (k := fun x h1 => (evs C .nil σ h1).bind fun xs h2 => .ok (x :: xs) h2) rs mo o) fun y H1 ⟨ρ2, h1, b, le, m1, ra, o1⟩ => ?_
      exact o1 ρ2 [y] H1 .refl m1 (.cons ra .nil)
    · cases h
theorem oneInt_rel {ρ : List Addr} {as : List Va} {vs : List V} {o : Option Int} {Q : Option Int → Prop} (r : RVs S ρ as vs) (e : oneInt as = some o) (q : Q o) : PartQ Q vs := by
  unfold oneInt at e
  split at e
  · cases e; cases r; exact q
  · cases e
    obtain ⟨x, rfl, rx⟩ := one_rel r
    cases rx
    exact ⟨_, rfl, q⟩
  · cases e
theorem pe_slcS {a : Expr} {lo hi : Option Expr} {u : E} {l m : Es} {f : Expr → Option E} {p2 pos : Pos} (G : Good S W C X c) (hf : Sub S W C X f) (ha : f a = some u) (hl : cPart f lo = some l) (hh : cPart f hi = some m) :
    PE X (.Subscript a (.Slice lo hi none p2) pos) (rdE S W (ev C (.slc u l m))) := by
  refine PE.weak (pe_slice (sl_all (X := X)) (hf a u ha).1 (cPart_ok hf hl) (cPart_ok hf hh)) fun τ H Q ⟨ρ, σ, h, rs, mo, o⟩ => ?_
  rw [G.k]
  refine rd.mono (out_bind rs mo o) fun x H1 ⟨ρ2, h1, b, le, m1, ra, o1⟩ => ?_
  refine rd.mono (out_bind (rs.le le) m1 o1) fun ls H2 ⟨ρ3, h2, bl, le2, m2, rl, o2⟩ => ?_
  split at o2
  · rename_i lo' el
    refine oneInt_rel rl el ?_
    refine rd.mono (out_bind (rs.le (le.trans le2)) m2 o2) fun hs H3 ⟨ρ4, h3, bh, le3, m3, rh, o3⟩ => ?_
    split at o3
    · rename_i u' e2
      exact oneInt_rel (Q := fun o => rSl S.K x lo' o H3 Q) rh e2 (slcV_ok m3 (RV.le (le2.trans le3) ra) o3)
    · exact o3.elim
  · exact o2.elim

/-! ### displays -/
theorem revV_ok {ρ : List Addr} {h : Hh} {H : Hp} {τ : L2.St} {a : Va} {x : V} {Q : VK} (m : Mo S ρ h H) (ra : RV S ρ a x) (o : Out S (RV S) W ρ (revV a h) τ Q) :
    ∃ p xs, x = .ref p ∧ SqL S.K H p xs ∧ ∀ q, H q = none → Q (.ref q) (upd H q (.lst xs.reverse)) := by
  unfold revV at o
  split at o
  · obtain ⟨p, e1, rfl⟩ := ra
    split at o
    · rename_i xs q
      obtain ⟨vs, g, r⟩ := m.lst e1 q
      exact ⟨p, vs, rfl, .of g, out_alloc (o := .lst xs.reverse) m ⟨_, rfl, Paired.rev r⟩ o⟩
    · exact o.elim
  · exact o.elim
theorem pe_revS {a : Expr} {u : E} {k : Nat} {p1 p2 p3 pos : Pos} (G : Good S W C X c) (ha : PE X a (rdE S W (ev C u))) : PE X (.Subscript a (.Slice none none (some (.UnaryOp .USub (.Constant (.int 1) k p1) p2)) p3) pos) (rdE S W (ev C (.rev u))) := by
  refine PE.weak (pe_revL ha) fun τ H Q ⟨ρ, σ, h, rs, mo, o⟩ => ?_
  rw [G.k]
  refine rd.mono (out_bind rs mo o) fun x H1 ⟨ρ2, h1, b, le, m1, ra, o1⟩ => ?_
  exact revV_ok m1 ra o1
theorem pe_lstS {es : List Expr} {u : Es} {pos : Pos} (hA : PA X es (rdA S W (evs C u))) : PE X (.List es pos) (rdE S W (ev C (.lst u))) := by
  refine PE.weak (pe_lst hA) fun τ H Q ⟨ρ, σ, h, rs, mo, o⟩ => ?_
  refine rd.mono (out_bind rs mo o) fun xs H1 ⟨ρ2, h1, b, le, m1, ra, o1⟩ => ?_
  split at o1
  · rename_i hz
    exact ⟨by rw [← big_eq, ← Paired.length ra]; exact hz, out_alloc (o := .lst b) m1 ⟨_, rfl, ra⟩ o1⟩
  · exact o1.elim
theorem pe_tupS {es : List Expr} {u : Es} {k : Nat} {pos : Pos} (hA : PA X es (rdA S W (evs C u))) : PE X (.Tuple es k pos) (rdE S W (ev C (.tup u))) := by
  refine PE.weak (pe_tup hA) fun τ H Q ⟨ρ, σ, h, rs, mo, o⟩ => ?_
  refine rd.mono (out_bind rs mo o) fun xs H1 ⟨ρ2, h1, b, le, m1, ra, o1⟩ => ?_
  split at o1
  · rename_i hz
    exact ⟨by rw [← big_eq, ← Paired.length ra]; exact hz, out_alloc (o := .tup b) m1 ⟨_, rfl, ra⟩ o1⟩
  · exact o1.elim
theorem pe_dnewS {pos : Pos} : PE X (.Dict [] [] pos) (rdE S W (ev C .dnew)) := by
  refine PE.weak pe_dnewK fun τ H Q ⟨ρ, σ, h, rs, mo, o⟩ => ?_
  exact out_alloc (o := .dK []) mo ⟨_, rfl, .nil⟩ o

/-! ### list(range(..)) -/
theorem rgRel {ρ : List Addr} (l : List Int) : RVs S ρ (l.map .int) (l.map V.int) := by
  induction l with
  | nil => exact .nil
  | cons x l ih => exact .cons rfl ih
theorem rg_fin {ρ : List Addr} {h : Hh} {H : Hp} {τ : L2.St} {vs : List Va} {us : List V} {Q : VK} (m : Mo S ρ h H) (r : RVs S ρ vs us)
    (o : Out S (RV S) W ρ (match rngV vs with
    | some (i, j) => if (j - i).toNat ≤ BIG then alloc (.lst ((rngL i j).map .int)) h else .bad
    | none => .bad) τ Q) : (∃ j, us = [.int j] ∧ RgOk 0 j ∧ ∀ q, H q = none → Q (.ref q) (upd H q (.lst (rgV 0 j)))) ∨ ∃ i j, us = [.int i, .int j] ∧ RgOk i j ∧ ∀ q, H q = none → Q (.ref q) (upd H q (.lst (rgV i j))) := by
  have er : ∀ i j, rgV i j = (rngL i j).map V.int := fun i j => by
    unfold rgV rngL
    rw [List.map_map]
    rfl
  split at o
  · rename_i i j e
    split at o
    · rename_i hz
      have q := out_alloc (o := .lst ((rngL i j).map .int)) m ⟨_, rfl, rgRel _⟩ o
      have hz2 : (j - i).toNat ≤ 16777216 := hz
      unfold rngV at e
      split at e
      · split at e
        · rename_i hb
          cases e
          obtain ⟨x, rfl, rx⟩ := one_rel r
          cases rx
          refine .inl ⟨_, rfl, ⟨by omega, by omega, by omega, by omega, by omega⟩, ?_⟩
          rw [er]; exact q
        · cases e
      · split at e
        · rename_i hb
          cases e
          obtain ⟨x, y, rfl, rx, ry⟩ := two_rel r
          cases rx
          cases ry
          refine .inr ⟨_, _, rfl, ⟨by omega, by omega, by omega, by omega, by omega⟩, ?_⟩
          rw [er]; exact q
        · cases e
      · cases e
    · exact o.elim
  · exact o.elim
theorem pe_lrngS {bs : List Expr} {u : Es} {f : Expr → Option E} {x y : Str} {p p2 pos pos2 : Pos} (G : Good S W C X c) (hf : Sub S W C X f) (hx : x = "list") (hy : y = "range") (h1 : isB c x = true) (h2 : isB c y = true) (ha : cAs f bs = some u) (hl : bs.length = 1 ∨ bs.length = 2) :
    PE X (.Call (.Name x p) [.Call (.Name y p2) bs [] pos2] [] pos) (rdE S W (ev C (.lrng u))) := by
  subst hx hy
  obtain ⟨g1, g2, g3, g4⟩ := G.bl h1 (by simp [usedB])
  obtain ⟨r1, r2, r3, r4⟩ := G.bl h2 (by simp [usedB])
  match bs, hl with
  | [a], _ =>
    unfold cAs at ha
    split at ha
    · cases ha
    · rename_i hs
      have hs : isStar a = false := by simpa using hs
      split at ha
      · rename_i v vs ev_ evs_
        cases ha
        cases evs_
        have hA := (hf a v ev_).1
        refine PE.weak (pe_listRg G.calm g1 g4 (prg_1 r1 r4 hA (starEach_plain hs)) (starEach_plain rfl)) fun τ H Q ⟨ρ, σ, h, rs, mo, o⟩ => ?_
        have o : Out S (RV S) W ρ (((ev C v σ h).bind fun x h1 => (RE.ok ([] : List Va) h1).bind fun xs h2 => RE.ok (x :: xs) h2).bind fun vs h1 => match rngV vs with
          | some (i, j) => if (j - i).toNat ≤ BIG then alloc (.lst ((rngL i j).map .int)) h1 else .bad
          | none => .bad) τ Q := o
        have e : ∀ r : RE Va, ((r.bind fun x h1 => (RE.ok ([] : List Va) h1).bind fun xs h2 => RE.ok (x :: xs) h2).bind fun vs h1 => match rngV vs with
          | some (i, j) => if (j - i).toNat ≤ BIG then alloc (.lst ((rngL i j).map .int)) h1 else .bad
          | none => .bad) = r.bind fun x h1 => match rngV [x] with
          | some (i, j) => if (j - i).toNat ≤ BIG then alloc (.lst ((rngL i j).map .int)) h1 else .bad
          | none => .bad := fun r => by cases r <;> rfl
        rw [e] at o
        refine rd.mono (out_bind rs mo o) fun x H1 ⟨ρ2, h1, b, le, m1, ra, o1⟩ => ?_
        rcases rg_fin m1 (.cons ra .nil) o1 with ⟨j, e, q⟩ | ⟨i, j, e, q⟩
        · cases e
          exact ⟨j, rfl, q⟩
        · cases e
      · cases ha
  | [a, b], _ =>
    obtain ⟨hs, _⟩ := cAs_ok hf _ u ha
    have sa := hs a List.mem_cons_self
    have sb := hs b (List.mem_cons_of_mem _ List.mem_cons_self)
    unfold cAs at ha
    rw [sa] at ha
    have ha : (match f a, cAs f [b] with
      | some x, some xs => some (Es.cons x xs)
      | _, _ => none) = some u := ha
    split at ha
    · rename_i v vs ev_ evs_
      cases ha
      unfold cAs at evs_
      rw [sb] at evs_
      have evs_ : (match f b, cAs f [] with
        | some x, some xs => some (Es.cons x xs)
        | _, _ => none) = some vs := evs_
      split at evs_
      · rename_i w ws ew ews
        cases evs_
        cases ews
        have hA := (hf a v ev_).1
        have hB := (hf b w ew).1
        refine PE.weak (pe_listRg G.calm g1 g4 (prg_2 r1 r4 hA hB (starEach_plain sa) (starEach_plain sb) (noStar_any fun e' he => by
          rcases List.mem_cons.mp he with rfl | he
          · exact sb
          · cases he)) (starEach_plain rfl)) fun τ H Q ⟨ρ, σ, h, rs, mo, o⟩ => ?_
        have e : ∀ (r : RE Va) (k : Hh → RE Va), ((r.bind fun x h1 => ((k h1).bind fun y h2 => (RE.ok ([] : List Va) h2).bind fun xs h3 => RE.ok (y :: xs) h3).bind fun xs h2 => RE.ok (x :: xs) h2).bind fun vs h1 => match rngV vs with
          | some (i, j) => if (j - i).toNat ≤ BIG then alloc (.lst ((rngL i j).map .int)) h1 else .bad
          | none => .bad) = r.bind fun x h1 => (k h1).bind fun y h2 => match rngV [x, y] with
          | some (i, j) => if (j - i).toNat ≤ BIG then alloc (.lst ((rngL i j).map .int)) h2 else .bad
          | none => .bad := fun r k => by
            cases r with
            | ok x h1 => show _ = (k h1).bind _; show (((k h1).bind _).bind _).bind _ = _; cases k h1 <;> rfl
            | exc _ _ _ => rfl
            | bad => rfl
        have o : Out S (RV S) W ρ ((ev C v σ h).bind fun x h1 => (ev C w σ h1).bind fun y h2 => match rngV [x, y] with
          | some (i, j) => if (j - i).toNat ≤ BIG then alloc (.lst ((rngL i j).map .int)) h2 else .bad
          | none => .bad) τ Q := by rw [← e (ev C v σ h) (ev C w σ)]; exact o
        refine rd.mono (out_bind rs mo o) fun x H1 ⟨ρ2, h1, b1, le, m1, ra, o1⟩ => ?_
        refine rd.mono (out_bind (rs.le le) m1 o1) fun y H2 ⟨ρ3, h2, b2, le2, m2, rb, o2⟩ => ?_
        rcases rg_fin m2 (.cons (ra.le le2) (.cons rb .nil)) o2 with ⟨j, e, q⟩ | ⟨i, j, e, q⟩
        · cases e
        · cases e
          exact ⟨i, j, rfl, rfl, q⟩
      · cases evs_
    · cases ha

/-! ### list(d.items()) -/
theorem Mo.more {ρ : List Addr} {h : Hh} {H : Hp} (M : Mo S ρ h H) {p : Addr} {o : Ob} {ho : HO} (n : H p = some ho) (nf : ∀ ob xs, ho ≠ .frz ob xs) (nr : p ∉ ρ) (r : RO S ρ o ho) : Mo S (ρ ++ [p]) (h ++ [o]) H := by
  have ne : ∀ {l : Nat} {a : Addr}, ρ[l]? = some a → a ≠ p := fun {l a} e z => nr (by rw [← z]; exact List.mem_of_getElem? e)
  have M0 : Mo S ρ h (fun b => if b = p then none else H b) := ⟨M.len, M.inj, fun l o q => by
    obtain ⟨a, hb, e1, e2, e3⟩ := M.obs l o q
    exact ⟨a, hb, e1, by show (if a = p then none else H a) = _; rw [if_neg (ne e1)]; exact e2, e3⟩, by
    rcases M.scr with ⟨ob, e⟩ | z
    · refine .inl ⟨ob, ?_⟩
      show (if S.sa = p then none else H S.sa) = _
      rw [if_neg ?_]
      · exact e
      · intro z; rw [z, n] at e; cases e; exact nf _ _ rfl
    · exact .inr z⟩
  have q := M0.new (p := p) (by simp) r
  have e : upd (fun b => if b = p then none else H b) p ho = H := by
    funext b
    by_cases z : b = p
    · subst z; rw [upd_same]; exact n.symm
    · rw [upd_ne z]; simp [z]
  rw [e] at q
  exact q
theorem keyVa_rel {ρ : List Addr} (k : Key) : RV S ρ (keyVa k) (kV k) := by cases k <;> rfl
theorem items_more {H : Hp} : ∀ (kvs : List (Key × Va)) {ws : List (Key × V)} {ts : List Addr} {ρ : List Addr} {h : Hh}, Mo S ρ h H → Paired (fun (p : Key × Va) (q : Key × V) => p.1 = q.1 ∧ RV S ρ p.2 q.2) kvs ws → Paired (fun (t : Addr) (q : Key × V) => H t = some (.tup [kV q.1, q.2])) ts ws →
    Mo S (ρ ++ ts) (h ++ kvs.map (fun p => Ob.tup [keyVa p.1, p.2])) H := by
  intro kvs
  induction kvs with
  | nil =>
    intro ws ts ρ h M r q
    cases r
    cases q
    rw [List.map_nil, List.append_nil, List.append_nil]
    exact M
  | cons kv kvs ih =>
    intro ws ts ρ h M r q
    cases r with
    | cons r t1 =>
      rename_i w ws
      cases q with
      | cons q t2 =>
        rename_i t ts
        obtain ⟨e, r⟩ := r
        obtain ⟨k, v⟩ := kv
        obtain ⟨k', w⟩ := w
        have e : k = k' := e
        subst e
        have M1 : Mo S (ρ ++ [t]) (h ++ [Ob.tup [keyVa k, v]]) H := M.alias (xs := [keyVa k, v]) q (.cons (keyVa_rel k) (.cons r .nil))
        have M2 := ih M1 (Paired.mono (fun _ _ z => ⟨z.1, z.2.le ⟨[t], rfl⟩⟩) t1) t2
        rw [List.map_cons, ← List.append_cons ρ t ts] at *
        rw [List.append_assoc] at M2
        exact M2
theorem itemsV_ok {ρ : List Addr} {h : Hh} {H : Hp} {τ : L2.St} {a : Va} {x : V} {Q : VK} (m : Mo S ρ h H) (ra : RV S ρ a x) (o : Out S (RV S) W ρ (itemsV a h) τ Q) : LiI.rItemsL x H Q := by
  unfold itemsV at o
  split at o
  · obtain ⟨p, e1, rfl⟩ := ra
    split at o
    · rename_i kvs q
      obtain ⟨ws, g, r⟩ := m.dK e1 q
      refine ⟨p, ws, rfl, g, fun H' p' ts hk hp hts hni hp' pr => ?_⟩
      have M1 := items_more kvs (m.same hk) r pr
      have l1 := Paired.length r
      have l2 := Paired.length pr
      have nr : p' ∉ ρ ++ ts := fun z => by
        rcases List.mem_append.mp z with z | z
        · obtain ⟨l, hl⟩ := List.getElem?_of_mem z
          obtain ⟨ob, q⟩ := m.lt hl
          obtain ⟨ho, e2, _⟩ := m.at hl q
          rw [hp] at e2; cases e2
        · exact hni z
      have M2 := M1.more hp' (fun _ _ z => by cases z) nr (o := .lst ((List.range kvs.length).map fun i => .ref (h.length + i))) ⟨_, rfl, ?_⟩
      · refine o (ρ ++ ts ++ [p']) (.ref p') H' ⟨ts ++ [p'], by simp⟩ M2 ⟨p', ?_, rfl⟩
        rw [← m.len, l1, ← l2, ← List.length_append]
        simp
      · rw [l1, ← l2, ← m.len]
        have go : ∀ (ts pre : List Addr), RVs S (pre ++ ts) ((List.range ts.length).map fun i => Va.ref (pre.length + i)) (ts.map V.ref) := by
          intro ts
          induction ts with
          | nil => intro pre; exact .nil
          | cons t ts ih =>
            intro pre
            rw [List.length_cons, List.range_succ_eq_map, List.map_cons, List.map_cons, List.map_map]
            refine .cons ⟨t, by simp, rfl⟩ ?_
            have z := ih (pre ++ [t])
            simp only [List.length_append, List.length_singleton, List.append_assoc, List.singleton_append] at z
            have ef : ((fun i => Va.ref (pre.length + i)) ∘ Nat.succ) = fun i => Va.ref (pre.length + 1 + i) := by
              funext i
              show Va.ref (pre.length + (i + 1)) = _
              rw [show pre.length + (i + 1) = pre.length + 1 + i by omega]
            rw [ef]
            exact z
        exact go ts ρ
    · exact o.elim
  · exact o.elim
theorem pe_itemsS {o : Expr} {u : E} {x m : Str} {p apos cpos pos : Pos} (G : Good S W C X c) (hx : x = "list") (hm : m = "items") (h1 : isB c x = true) (hb : baseOk o = true) (hl : apos.endLine = cpos.line) (ho : PE X o (rdE S W (ev C u))) :
    PE X (.Call (.Name x p) [.Call (.Attribute o m apos) [] [] cpos] [] pos) (rdE S W (ev C (.items u))) := by
  subst hx hm
  obtain ⟨g1, g2, g3, g4⟩ := G.bl h1 (by simp [usedB])
  refine PE.weak (LiI.pe_listItems G.calm ho g1 g4 (by decide +kernel) (attrBase hb) (by rw [hl]; exact beq_self_eq_true _) (starEach_plain rfl)) fun τ H Q ⟨ρ, σ, h, rs, mo, o⟩ => ?_
  refine rd.mono (out_bind rs mo o) fun x H1 ⟨ρ2, h1, b, le, m1, ra, o1⟩ => ?_
  exact itemsV_ok m1 ra o1
end HA

namespace HA
open PySem PySem.Spec PyProof.Rows L2
variable {S : Fx} {W : WX} {C : Cf} {X : Cx} {c : Cc}

/-! ### targets -/
/-- what a turn yields, by values -/
def YR (S : Fx) (ρ : List Addr) (H : Hp) : Ya → V → Prop
  | .one v, x => RV S ρ v x
  | .two v w, x => ∃ p a b, x = .ref p ∧ H p = some (.tup [a, b]) ∧ RV S ρ v a ∧ RV S ρ w b
/-- only those slots have been stored into -/
def OnlyIn (is : List Nat) (τ τ1 : L2.St) : Prop := ∀ vs : List Nat, (∀ i ∈ is, i ∈ vs) → wipe τ1 vs = wipe τ vs
theorem wipe_set {τ : L2.St} {i : Nat} {x : Option V} : ∀ {vs : List Nat}, i ∈ vs → wipe (τ.set i x) vs = wipe τ vs
  | [], h => by cases h
  | v :: vs, h => by
    unfold wipe
    by_cases hv : i ∈ vs
    · rw [wipe_set hv]
    · rcases List.mem_cons.mp h with rfl | h
      · have : ∀ (us : List Nat), i ∉ us → wipe (τ.set i x) us = (wipe τ us).set i x := by
          intro us
          induction us with
          | nil => intro _; rfl
          | cons u us ih =>
            intro hu
            unfold wipe
            rw [ih fun z => hu (List.mem_cons_of_mem _ z), List.set_comm _ _ (fun z => hu (by rw [z]; exact List.mem_cons_self))]
        rw [this vs hv, List.set_set]
      · exact absurd h hv
theorem OnlyIn.set {τ : L2.St} {i : Nat} {x : Option V} : OnlyIn [i] τ (τ.set i x) := fun vs h => wipe_set (h i List.mem_cons_self)
theorem OnlyIn.refl {is : List Nat} {τ : L2.St} : OnlyIn is τ τ := fun _ _ => rfl
theorem OnlyIn.trans {a b : List Nat} {τ τ1 τ2 : L2.St} (h : OnlyIn a τ τ1) (k : OnlyIn b τ1 τ2) : OnlyIn (a ++ b) τ τ2 := fun vs hv => by
  rw [k vs fun i hi => hv i (List.mem_append_right _ hi), h vs fun i hi => hv i (List.mem_append_left _ hi)]
def gT (S : Fx) (t : Tg) : TG := fun x τ H Q => ∃ ρ σ h y σ1, RS S ρ σ τ ∧ Mo S ρ h H ∧ YR S ρ H y x ∧ tgY h t y σ = some σ1 ∧ ∀ τ1, RS S ρ σ1 τ1 → OnlyIn (tgSlots t) τ τ1 → Q τ1 H
def gTs (S : Fx) (t : Tg) : TGs := fun vs τ H Q => ∃ ρ σ h xs σ1, RS S ρ σ τ ∧ Mo S ρ h H ∧ RVs S ρ xs vs ∧ tgA h t xs σ = some σ1 ∧ ∀ τ1, RS S ρ σ1 τ1 → OnlyIn (tgSlots t) τ τ1 → Q τ1 H
theorem RS.set {ρ : List Addr} {σ : Sl} {τ : L2.St} (r : RS S ρ σ τ) {a : Va} {x : V} (i : Nat) (h : RV S ρ a x) : RS S ρ (σ.set i (some a)) (τ.set i (some x)) := by
  refine ⟨by rw [List.length_set, List.length_set]; exact r.1, fun j y e => ?_⟩
  rw [List.getElem?_set] at e
  rw [List.getElem?_set, ← r.1]
  split at e
  · rename_i hij
    split at e
    · rename_i hl
      cases e
      exact ⟨x, by rw [if_pos hij, if_pos hl], h⟩
    · cases e
  · rename_i hij
    obtain ⟨v, h1, h2⟩ := r.2 j y e
    exact ⟨v, by rw [if_neg hij]; exact h1, h2⟩
theorem PG.weak {e : Expr} {t t' : TG} (h : PG X e t) (w : ∀ v τ H Q, t' v τ H Q → t v τ H Q) : PG X e t' := ⟨fun pins s σ H v u Q I r q => h.run pins s σ H v u Q I r (w _ _ _ _ q)⟩
theorem PGs.weak {e : List Expr} {t t' : TGs} (h : PGs X e t) (w : ∀ v τ H Q, t' v τ H Q → t v τ H Q) : PGs X e t' := ⟨fun pins s σ H v u Q I r q => h.run pins s σ H v u Q I r (w _ _ _ _ q)⟩
theorem asg_plain {e : Expr} {es : List Expr} {env : Env} (h : isStar e = false) : assignEach (e :: es) env = (false, assign e env) :: assignEach es env := by
  cases e <;> first | rfl | cases h
theorem cTgt_ok {x : Str} {i : Nat} (G : Good S W C X c) (h : cTgt c x = some i) : X.N[i]? = some x ∧ Loc X.env.scope x ∧ (X.fn x = true ∨ X.env.scope.names.lookup x = some .local) := by
  unfold cTgt at h
  split at h
  · rename_i hl
    have e : X.env.scope.names.lookup x = some .local := by rw [G.sc]; exact hl
    exact ⟨G.slot h, .inl e, .inr e⟩
  · rename_i hl
    split at h
    · rename_i hf
      exact ⟨G.slot h, .inr (by show X.env.scope.names.lookup x = some .cell; rw [G.sc]; exact hl), .inl (G.fn x hf)⟩
    · cases h
  · cases h
theorem cTgt_nd (G : Good S W C X c) : X.N.Nodup := by rw [G.hN]; exact G.nd
theorem go_len {f : Expr → Option Tg} : ∀ {es : List Expr} {t : Tg} {h : Hh} {xs : List Va} {σ σ1 : Sl}, cTg.go f es = some t → tgA h t xs σ = some σ1 → xs.length = es.length ∧ (∀ i, t ≠ .nm i)
  | [], t, h, xs, σ, σ1, e, q => by
    cases e
    cases xs with
    | nil => exact ⟨rfl, fun i z => by cases z⟩
    | cons x xs => cases q
  | a :: es, t, h, xs, σ, σ1, e, q => by
    unfold cTg.go at e
    split at e
    · cases e
    · split at e
      · rename_i u v eu ev_
        cases e
        cases xs with
        | nil => cases q
        | cons x xs =>
          have q : (match spread h u x with
            | some ys => match tgA h u ys σ with
              | some σ' => tgA h v xs σ'
              | none => none
            | none => none) = some σ1 := q
          split at q
          · split at q
            · obtain ⟨h1, _⟩ := go_len ev_ q
              exact ⟨by rw [List.length_cons, List.length_cons, h1], fun i z => by cases z⟩
            · cases q
          · cases q
      · cases e
theorem go_tup {f : Expr → Option Tg} {es : List Expr} {t : Tg} (e : cTg.go f es = some t) : ∀ i, t ≠ .nm i := by
  intro i z
  subst z
  cases es with
  | nil => cases e
  | cons a es =>
    unfold cTg.go at e
    split at e
    · cases e
    · split at e <;> cases e
theorem go_stars {f : Expr → Option Tg} {env : Env} : ∀ {es : List Expr} {t : Tg}, cTg.go f es = some t → (assignEach es env).length = es.length ∧ (assignEach es env).findIdx? (·.1) = none
  | [], _, _ => ⟨rfl, rfl⟩
  | a :: es, t, e => by
    unfold cTg.go at e
    split at e
    · cases e
    · rename_i hs
      have hs : isStar a = false := by simpa using hs
      split at e
      · rename_i u v eu ev_
        obtain ⟨h1, h2⟩ := go_stars (env := env) ev_
        rw [asg_plain hs]
        refine ⟨by rw [List.length_cons, List.length_cons, h1], ?_⟩
        rw [List.findIdx?_cons]
        simp only [Bool.false_eq_true, if_false, h2, Option.map_none]
      · cases e
theorem pgs_go (G : Good S W C X c) {f : Expr → Option Tg} (hf : ∀ e t, f e = some t → PG X e (gT S t)) : ∀ {es : List Expr} {t : Tg}, cTg.go f es = some t → PGs X es (gTs S t)
  | [], t, e => by
    cases e
    refine PGs.weak pgs_nil fun vs τ H Q ⟨ρ, σ, h, xs, σ1, rs, mo, r, e, q⟩ => ?_
    cases xs with
    | nil =>
      cases r
      cases e
      exact ⟨rfl, q τ rs .refl⟩
    | cons x xs => cases e
  | a :: es, t, e => by
    unfold cTg.go at e
    split at e
    · cases e
    · rename_i hs
      have hs : isStar a = false := by simpa using hs
      split at e
      · rename_i u v eu ev_
        cases e
        refine PGs.weak (pgs_cons (hf a u eu) (pgs_go G hf ev_) (by rw [asg_plain hs]; rfl)) fun vs τ H Q ⟨ρ, σ, h, xs, σ1, rs, mo, r, e, q⟩ => ?_
        cases xs with
        | nil => cases e
        | cons x xs =>
          cases r with
          | cons rx rt =>
            have e : (match spread h u x with
              | some ys => match tgA h u ys σ with
                | some σ' => tgA h v xs σ'
                | none => none
              | none => none) = some σ1 := e
            split at e
            · rename_i ys ey
              split at e
              · rename_i σ' eσ
                refine ⟨_, _, rfl, ρ, σ, h, .one x, σ', rs, mo, rx, ?_, fun τ1 rs1 o1 => ⟨ρ, σ', h, xs, σ1, rs1, mo, rt, e, fun τ2 rs2 o2 => q τ2 rs2 (o1.trans o2)⟩⟩
                show (match spread h u x with
                  | some xs => tgA h u xs σ
                  | none => none) = some σ'
                rw [ey]; exact eσ
              · cases e
            · cases e
      · cases e
theorem spread_tup {h : Hh} {t : Tg} {v : Va} (nt : ∀ i, t ≠ .nm i) : spread h t v = tupOf v h := by
  cases t with
  | nm i => exact absurd rfl (nt i)
  | tp _ _ => rfl
  | te => rfl
theorem tupOf_rel {ρ : List Addr} {h : Hh} {H : Hp} {a : Va} {x : V} {xs : List Va} (mo : Mo S ρ h H) (r : RV S ρ a x) (e : tupOf a h = some xs) : ∃ p vs, x = .ref p ∧ H p = some (.tup vs) ∧ RVs S ρ xs vs := by
  unfold tupOf at e
  split at e
  · obtain ⟨p, e1, rfl⟩ := r
    split at e
    · rename_i ys qy
      cases e
      obtain ⟨vs, g, rv⟩ := mo.tup e1 qy
      exact ⟨p, vs, rfl, g, rv⟩
    · cases e
  · cases e
theorem cTg_ok (G : Good S W C X c) : ∀ (n : Nat) (e : Expr) (t : Tg), cTg c n e = some t → PG X e (gT S t)
  | 0, e, t, h => by cases h
  | n + 1, e, t, h => by
    unfold cTg at h
    split at h
    · rename_i e1; cases e1
    · rename_i m x p e1
      cases e1
      split at h
      · rename_i i ei
        cases h
        obtain ⟨h1, h2, h3⟩ := cTgt_ok G ei
        refine PG.weak (pg_name (cTgt_nd G) h1 h2 h3) fun v τ H Q ⟨ρ, σ, hh, y, σ1, rs, mo, r, e, q⟩ => ?_
        cases y with
        | one a =>
          cases e
          exact q _ (rs.set i r) .set
        | two a b => cases e
      · cases h
    · rename_i m es k p e1
      cases e1
      obtain ⟨l1, l2⟩ := go_stars (env := X.env) h
      have nt := go_tup h
      refine PG.weak (pg_tup (n := es.length) G.calm (pgs_go G (cTg_ok G n) h) l1 l2) fun v τ H Q ⟨ρ, σ, hh, y, σ1, rs, mo, r, e, q⟩ => ?_
      rw [G.k]
      cases y with
      | one a =>
        have e : (match spread hh t a with
          | some xs => tgA hh t xs σ
          | none => none) = some σ1 := e
        split at e
        · rename_i xs ex
          rw [spread_tup nt] at ex
          obtain ⟨p, vs, rfl, g, rv⟩ := tupOf_rel mo r ex
          exact ⟨p, vs, rfl, .of g, by rw [← Paired.length rv]; exact (go_len h e).1, ρ, σ, hh, xs, σ1, rs, mo, rv, e, q⟩
        · cases e
      | two a b =>
        obtain ⟨p, x1, x2, rfl, g, r1, r2⟩ := r
        have e : tgA hh t [a, b] σ = some σ1 := by
          cases t with
          | nm i => exact absurd rfl (nt i)
          | tp _ _ => exact e
          | te => exact e
        exact ⟨p, [x1, x2], rfl, .of g, (go_len h e).1, ρ, σ, hh, [a, b], σ1, rs, mo, .cons r1 (.cons r2 .nil), e, q⟩
    · cases h
end HA

namespace HA
open PySem PySem.Spec PyProof.Rows L2

/-! ### enumerate of a tuple -/
set_option maxHeartbeats 1000000 in
theorem newEnumT {u : Value} {ob : Obj} {Hc : Heap → Prop} (B : Begins u ob Hc) :
    Meets (Builtin.«enumerate.__new__» ⟨[.type "enumerate", u], []⟩) (fun _ R s => Hc s.heap ∧
      R (.ok (.ret (.ref (s.heap.push ob).objs.size))) { s with heap := (s.heap.push ob).push { cls := .type "enumerate", data := .fields #[.none, .bool false, .ref s.heap.objs.size, rawInt 0, .none, .none] } }) :=
  .of_wp fun prog w A R s h => by
    obtain ⟨hh, g, d, tk, os⟩ := s
    obtain ⟨z1, z2⟩ := h
    have hs := sub_enumerate
    have it : ∀ {A' : Around} {E : Value → Shared → Prop} {Q : Value → Shared → Prop}, Q (.ref hh.objs.size) ⟨hh.push ob, g, d, tk, os⟩ → wpAny (model prog w) A' (pyIter u) Q E ⟨hh, g, d, tk, os⟩ :=
      fun q => B.iter prog w _ _ ⟨hh, g, d, tk, os⟩ _ z1 q
    wp_walk using it
    refine wpAny_stack_any fun st => wpAny_pure ?_
    split
    · rename_i cc _ _ _ _ _
      cases (cc == Value.type "enumerate")
      all_goals
        wp_walk using it
        exact ⟨_, rfl, z2⟩
    · wp_walk using it
      exact ⟨_, rfl, z2⟩
theorem callEnumT {prog : Program} {w : World} {A : Around} {E : Value → Shared → Prop} {s : Shared} {u : Value} {ob : Obj} {Hc : Heap → Prop} {Q : Value → Shared → Prop} (B : Begins u ob Hc) (h1 : Hc s.heap)
    (h : ∀ h2, IsEnum h2 (s.heap.objs.size + 1) s.heap.objs.size 0 .none → h2.get? s.heap.objs.size = some ob → (∀ b o, s.heap.get? b = some o → h2.get? b = some o) → Q (.ref (s.heap.objs.size + 1)) { s with heap := h2 }) :
    wpAny (model prog w) A (call (.type "enumerate") [u]) Q E s := by
  refine callType_new F.called_enumerate (by decide) (F.typeCall_enumerate_1 _) (F.newCall_enumerate_1 _) (fun obj => F.args_object_init_2 obj _) F.entry_enumerate_new (newEnumT B) ⟨h1, ?_⟩
  have sz : (s.heap.push ob).objs.size = s.heap.objs.size + 1 := Heap.size_push ..
  have en := Heap.get?_push_size (s.heap.push ob) (o := { cls := .type "enumerate", data := .fields #[.none, .bool false, .ref s.heap.objs.size, rawInt 0, .none, .none] }) rfl
  show _ ∧ _
  rw [sz]
  rw [sz] at en
  exact ⟨⟨_, en, rfl⟩, h _ en (Heap.get?_push_of_some _ (Heap.get?_push_size _ B.free)) fun b o x => Heap.get?_push_of_some _ (Heap.get?_push_of_some _ x)⟩
/-- the tuple at a, each item in a new pair -/
def IteT (K : PySem.W.Frag) (a : Addr) (n : Nat) : L2.It :=
  ⟨fun i H => ∃ (ys : List V) (y : V), SqT K H a ys ∧ ys[i]? = some y ∧ ys.length = n, fun i H v H' => ∃ T y, v = .ref T ∧ H T = none ∧ H' = upd H T (.tup [.int (i : Nat), y]) ∧ ∀ ys, SqT K H a ys → ys[i]? = some y, fun i H => ∃ ys : List V, SqT K H a ys ∧ ys.length ≤ i ∧ ys.length = n⟩
theorem turn_enumT {P : Program} {w : World} {K : PySem.W.Frag} {elts : List Expr} {kk : Nat} {tpos : Pos} (a e it : Addr) (n : Nat) :
    Turn P w K (.Tuple elts kk tpos) (IteT K a n) [e, it] e (fun i h => (∃ old, IsEnum h e it ((i : Nat) : Int) old) ∧ h.IsTupleIter it a i ∧ e ≠ it ∧ a ≠ it ∧ a ≠ e ∧ i ≤ n) where
  mem := by simp
  obj := fun i h st b hb => by
    obtain ⟨⟨old, he⟩, ⟨o, ho, hc, hd⟩, _⟩ := st
    rcases (by simpa using hb : b = e ∨ b = it) with rfl | rfl
    · exact ⟨_, he, fun v q => nomatch q⟩
    · exact ⟨o, ho, fun v q => by rw [hd] at q; cases q⟩
  keep := fun i h h' st k => by
    obtain ⟨⟨old, he⟩, hi, hne⟩ := st
    exact ⟨⟨old, k e (by simp) _ he⟩, hi.at fun o q => k it (by simp) o q, hne⟩
  item := by
    intro X hP hw hK hc i pins s σ H E I hf st hg
    subst hP hw hK
    obtain ⟨⟨old, he⟩, hit, hne, hn2, hn3, hin⟩ := st
    obtain ⟨ys, y, hq, hy, hyl⟩ := hg
    obtain ⟨its, rv, p, hz⟩ := I.tuple hq
    obtain ⟨u, hu, ru⟩ := rv.get hy
    have l1 : e < s.heap.objs.size := Heap.lt_size he
    have l2 : it < s.heap.objs.size := by
      obtain ⟨_, q, _⟩ := hit
      exact Heap.lt_size q
    have hlt : i < its.toArray.size := by
      have := (List.getElem?_eq_some_iff.mp hu).1
      simpa using this
    refine wpAny_pyNext_enum_itemC (Draws.tuple (A := X.A.in1) (show X.A.in1.handled = none from I.ok.hd hc) it a hn2 its.toArray) he ⟨hit, p⟩ hlt hne (by simp [hne, Ne.symm hn3]) fun x h' tk px ho ⟨hit', _⟩ hT hsz hk => ?_
    have ex : x = u := by
      have : its.toArray[i]? = some u := by simpa using hu
      rw [this] at px
      exact (Option.some.inj px).symm
    subst ex
    refine ⟨_, rfl, wpAny_letOwnedTupleGo_enum (s := { s with heap := h', toks := tk + 1 }) ho fun h2 he' sb => ?_⟩
    have hT2 : h2.get? s.heap.objs.size = some { cls := .type "tuple", data := .seq #[.int i tk, x] } := (sb.2 _ (Nat.ne_of_gt l1)).trans hT
    have new : ObjOk X.prog X.w (upd H s.heap.objs.size (.tup [.int (i : Nat), y])) h2 s.heap.objs.size (.tup [.int (i : Nat), y]) :=
      ⟨by show 2 ≤ sizeLine; decide, [.int i tk, x], .cons ⟨_, rfl⟩ (.cons ru .nil), ⟨_, hT2, rfl, _, rfl⟩⟩
    have J : Inv X pins σ (upd H s.heap.objs.size (.tup [.int (i : Nat), y])) { s with heap := h2, toks := tk + 1 } :=
      I.turnedNew (ch := [e, it]) (fun b ob hb q => (sb.2 b (fun z => hb (by simp [z]))).trans (hk b ob (fun z => hb (by simp [z])) (fun z => hb (by simp [z])) q)) hf (Nat.le_refl _) new
    refine ⟨.ref s.heap.objs.size, _, J, rfl, ⟨_, y, rfl, I.hok.fresh (Nat.le_refl _), rfl, fun zs hz => by rw [I.tuple_inj hz hq]; exact hy⟩, ⟨⟨x, ?_⟩, hit'.at fun o q => (sb.2 it (Ne.symm hne)).trans q, hne, hn2, hn3, by have := (List.getElem?_eq_some_iff.mp hy).1; omega⟩, fun b hb => ?_⟩
    · rw [show ((i + 1 : Nat) : Int) = (i : Int) + 1 by omega]
      exact he'
    · have : b < s.heap.objs.size := by
        rcases (by simpa using hb : b = e ∨ b = it) with rfl | rfl
        · exact l1
        · exact l2
      rw [upd_ne (Nat.ne_of_lt this)]
      exact (hf b hb).1
  done := by
    intro X hP hw hK hc i pins s σ H E I hf st hg
    subst hP hw hK
    obtain ⟨⟨old, he⟩, hit, hne, hn2, hn3, hin⟩ := st
    obtain ⟨ys, hq, hy, hyl⟩ := hg
    obtain ⟨its, rv, p, hz⟩ := I.tuple hq
    obtain ⟨f0, f1, f2, f3, f4, f5⟩ := hf it (by simp)
    have hl := rv.length
    have ei : i = its.toArray.size := by simp; omega
    subst ei
    exact wpAny_pyNext_enum_endD (Draws.tuple (A := X.A.in1) (show X.A.in1.handled = none from I.ok.hd hc) it a hn2 its.toArray) he ⟨hit, p⟩ fun h' eb => ⟨rfl, I.turned (t' := s.toks) (fun b o hb e => eb b o hb e) f0 f1 f3 f4 f5⟩
  self := fun A i s Q E st h => by
    obtain ⟨⟨_, he⟩, _⟩ := st
    exact wpAny_pyIter_enum he h
def iEnumA (K : PySem.W.Frag) (ta : TA) : TI := fun σ H R => ta σ H fun vs H1 => ∃ a ys, vs = [.ref a] ∧ ((SqL K H1 a ys ∧ R (Ite K a) H1) ∨ (SqT K H1 a ys ∧ R (IteT K a ys.length) H1))
theorem pi_enumA {X : Cx} {e : Expr} {ta : TA} {p pos tpos : Pos} {elts : List Expr} {kk : Nat} (hg : Gl X "enumerate") (hm : X.mg "enumerate" = none) (ha : PA X [e] ta) (hs : starEach [e] X.env = [(false, eval e X.env)]) :
    PI X (.Tuple elts kk tpos) (.Call (.Name "enumerate" p) [e] [] pos) (iEnumA X.K ta) := by
  refine ⟨fun pins s σ H R I h => ?_⟩
  refine Call_ (ld_blt I hg hm boot_enumerate (PyProof.Rows.callWith_type1 (thn (ha.run pos pins s σ H _ I h) fun us s1 ⟨vs, H1, I1, r1, q1⟩ => ?_) hs rfl))
  obtain ⟨a, ys, ex, q1⟩ := q1
  subst ex
  cases r1 with
  | cons r rr =>
    cases rr
    cases r
    have fp : ∀ b ∈ [s1.heap.objs.size + 1, s1.heap.objs.size], s1.heap.objs.size ≤ b := fun b hb => by
      rcases (by simpa using hb : b = s1.heap.objs.size + 1 ∨ b = s1.heap.objs.size) with z | z <;> omega
    rcases q1 with ⟨hq, q⟩ | ⟨hq, q⟩
    · obtain ⟨its, rv, p', hz⟩ := I1.list hq
      refine call_enumerate_list p'.isList fun h' he hit hsz hk => wpAny_pyIter_enum he ?_
      have J : Inv X pins σ H1 { s1 with heap := h' } := I1.kept (t' := s1.toks) hk
      exact ⟨_, [s1.heap.objs.size + 1, s1.heap.objs.size], _, _, H1, rfl, J, turn_enum a _ _, ⟨⟨.none, he⟩, hit, Nat.succ_ne_self _⟩, fun b hb => I1.fpOk (fp b hb) (I1.hok.fresh (fp b hb)), q⟩
    · obtain ⟨its, rv, p', hz⟩ := I1.tuple hq
      refine callEnumT (begins_tuple a its.toArray) p' fun h' he hit hk => wpAny_pyIter_enum he ?_
      have J : Inv X pins σ H1 { s1 with heap := h' } := I1.kept (t' := s1.toks) hk
      have la : a < s1.heap.objs.size := by
        obtain ⟨o, e, _⟩ := p'
        exact Heap.lt_size e
      exact ⟨_, [s1.heap.objs.size + 1, s1.heap.objs.size], _, _, H1, rfl, J, turn_enumT a (s1.heap.objs.size + 1) s1.heap.objs.size ys.length, ⟨⟨.none, he⟩, ⟨_, hit, rfl, rfl⟩, Nat.succ_ne_self _, Nat.ne_of_lt la, Nat.ne_of_lt (Nat.lt_succ_of_lt la), Nat.zero_le _⟩, fun b hb => I1.fpOk (fp b hb) (I1.hok.fresh (fp b hb)), q⟩
end HA

namespace HA
open PySem PySem.Spec PyProof.Rows L2
variable {S : Fx} {W : WX} {C : Cf} {X : Cx} {c : Cc}

/-! ### what loops walk -/
structure WalkOk (S : Fx) (ρ0 : List Addr) (J : L2.It) (src : List (Nat × Ob)) (ys : List Ya) : Prop where
  go : ∀ (i : Nat) (y : Ya) (ρ : List Addr) (h : Hh) (H : Hp), Le ρ0 ρ → Mo S ρ h H → live src h = true → ys[i]? = some y → J.go i H ∧ ∀ x H', J.yld i H x H' → Mo S ρ h H' ∧ YR S ρ H' y x
  stop : ∀ (i : Nat) (ρ : List Addr) (h : Hh) (H : Hp), Le ρ0 ρ → Mo S ρ h H → live src h = true → ys.length = i → J.stop i H
def iS (S : Fx) (W : WX) (f : Sl → Hh → RE Itr) : TI := fun τ H R => rd S (fun ρ (w : Itr) (J : L2.It) => WalkOk S ρ J w.src w.ys) W f τ H R
theorem PI.weak {tg iter : Expr} {wi wi' : TI} (h : PI X tg iter wi) (w : ∀ τ H R, wi' τ H R → wi τ H R) : PI X tg iter wi' := ⟨fun pins s σ H R I q => h.run pins s σ H R I (w _ _ _ q)⟩
theorem live_one {l : Nat} {o : Ob} {h : Hh} (e : live [(l, o)] h = true) : h[l]? = some o := by
  unfold live at e
  rw [List.all_cons, Bool.and_eq_true] at e
  exact of_decide_eq_true e.1
theorem live_app {a b : List (Nat × Ob)} {h : Hh} (e : live (a ++ b) h = true) : live a h = true ∧ live b h = true := by
  unfold live at e
  rw [List.all_append, Bool.and_eq_true] at e
  exact e
theorem walk_list {ρ0 : List Addr} {l : Nat} {p : Addr} {xs : List Va} (e1 : ρ0[l]? = some p) : WalkOk S ρ0 (Itl S.K p) [(l, .lst xs)] (xs.map .one) := by
  refine ⟨fun i y ρ h H le m lv hy => ?_, fun i ρ h H le m lv hi => ?_⟩
  · obtain ⟨vs, g, r⟩ := m.lst (le.get e1) (live_one lv)
    rw [List.getElem?_map] at hy
    cases hx : xs[i]? with
    | none => rw [hx] at hy; cases hy
    | some a =>
      rw [hx] at hy
      cases hy
      obtain ⟨v, hv, rv⟩ := Paired.get r hx
      refine ⟨⟨vs, v, .of g, hv⟩, fun x H' ⟨e, q⟩ => ?_⟩
      subst e
      have := q vs (.of g)
      rw [hv] at this
      cases this
      exact ⟨m, rv⟩
  · obtain ⟨vs, g, r⟩ := m.lst (le.get e1) (live_one lv)
    refine ⟨vs, .of g, ?_⟩
    rw [← Paired.length r, ← hi, List.length_map]
    exact Nat.le_refl _
theorem walk_tup {ρ0 : List Addr} {l : Nat} {p : Addr} {xs : List Va} (e1 : ρ0[l]? = some p) : WalkOk S ρ0 (Itt S.K p) [(l, .tup xs)] (xs.map .one) := by
  refine ⟨fun i y ρ h H le m lv hy => ?_, fun i ρ h H le m lv hi => ?_⟩
  · obtain ⟨vs, g, r⟩ := m.tup (le.get e1) (live_one lv)
    rw [List.getElem?_map] at hy
    cases hx : xs[i]? with
    | none => rw [hx] at hy; cases hy
    | some a =>
      rw [hx] at hy
      cases hy
      obtain ⟨v, hv, rv⟩ := Paired.get r hx
      refine ⟨⟨vs, v, .of g, hv⟩, fun x H' ⟨e, q⟩ => ?_⟩
      subst e
      have := q vs (.of g)
      rw [hv] at this
      cases this
      exact ⟨m, rv⟩
  · obtain ⟨vs, g, r⟩ := m.tup (le.get e1) (live_one lv)
    refine ⟨vs, .of g, ?_⟩
    rw [← Paired.length r, ← hi, List.length_map]
    exact Nat.le_refl _
theorem walk_rng {ρ0 : List Addr} {lo : Int} {n : Nat} {ys : List Ya} (hl : ys.length = n) (hy : ∀ i, i < n → ys[i]? = some (.one (.int (lo + (i : Nat))))) : WalkOk S ρ0 (L2.Itr lo n) [] ys := by
  refine ⟨fun i y ρ h H le m lv e => ?_, fun i ρ h H le m lv hi => ?_⟩
  · have hi : i < n := by rw [← hl]; exact (List.getElem?_eq_some_iff.mp e).1
    refine ⟨hi, fun x H' ⟨e1, e2⟩ => ?_⟩
    rw [hy i hi] at e
    cases e
    subst e1 e2
    exact ⟨m, rfl⟩
  · show n ≤ i
    omega
theorem rngY_get (a b : Int) : (rngY (rngL a b)).length = (b - a).toNat ∧ ∀ i, i < (b - a).toNat → (rngY (rngL a b))[i]? = some (.one (.int (a + (i : Nat)))) := by
  unfold rngY rngL
  refine ⟨by rw [List.length_map, List.length_map, List.length_range], fun i hi => ?_⟩
  rw [List.getElem?_map, List.getElem?_map, List.getElem?_range hi]
  rfl
theorem enumY_get : ∀ (xs : List Va) (n i : Nat), (enumY n xs).length = xs.length ∧ (enumY n xs)[i]? = (xs[i]?).map fun x => .two (.int ((n + i : Nat) : Int)) x
  | [], n, i => ⟨rfl, by simp [enumY]⟩
  | x :: xs, n, 0 => ⟨by rw [enumY, List.length_cons, List.length_cons, (enumY_get xs (n + 1) 0).1], rfl⟩
  | x :: xs, n, i + 1 => by
    obtain ⟨h1, h2⟩ := enumY_get xs (n + 1) i
    refine ⟨by rw [enumY, List.length_cons, List.length_cons, h1], ?_⟩
    rw [enumY, List.getElem?_cons_succ, List.getElem?_cons_succ, h2, show n + 1 + i = n + (i + 1) by omega]
theorem walk_enum {ρ0 : List Addr} {l : Nat} {p : Addr} {xs : List Va} (e1 : ρ0[l]? = some p) : WalkOk S ρ0 (Ite S.K p) [(l, .lst xs)] (enumY 0 xs) := by
  refine ⟨fun i y ρ h H le m lv hy => ?_, fun i ρ h H le m lv hi => ?_⟩
  · obtain ⟨vs, g, r⟩ := m.lst (le.get e1) (live_one lv)
    rw [(enumY_get xs 0 i).2] at hy
    cases hx : xs[i]? with
    | none => rw [hx] at hy; cases hy
    | some a =>
      rw [hx] at hy
      cases hy
      obtain ⟨v, hv, rv⟩ := Paired.get r hx
      refine ⟨⟨vs, v, .of g, hv⟩, fun x H' ⟨T, z, e, hT, eH, q⟩ => ?_⟩
      subst e eH
      have := q vs (.of g)
      rw [hv] at this
      cases this
      refine ⟨m.same (same_upd hT), T, .int (i : Nat), _, rfl, upd_same, ?_, rv⟩
      show V.int _ = V.int _
      rw [Nat.zero_add]
  · obtain ⟨vs, g, r⟩ := m.lst (le.get e1) (live_one lv)
    refine ⟨vs, .of g, ?_⟩
    rw [← Paired.length r, ← hi, (enumY_get xs 0 0).1]
    exact Nat.le_refl _
theorem walk_enumT {ρ0 : List Addr} {l : Nat} {p : Addr} {xs : List Va} (e1 : ρ0[l]? = some p) : WalkOk S ρ0 (IteT S.K p xs.length) [(l, .tup xs)] (enumY 0 xs) := by
  refine ⟨fun i y ρ h H le m lv hy => ?_, fun i ρ h H le m lv hi => ?_⟩
  · obtain ⟨vs, g, r⟩ := m.tup (le.get e1) (live_one lv)
    rw [(enumY_get xs 0 i).2] at hy
    cases hx : xs[i]? with
    | none => rw [hx] at hy; cases hy
    | some a =>
      rw [hx] at hy
      cases hy
      obtain ⟨v, hv, rv⟩ := Paired.get r hx
      refine ⟨⟨vs, v, .of g, hv, (Paired.length r).symm⟩, fun x H' ⟨T, z, e, hT, eH, q⟩ => ?_⟩
      subst e eH
      have := q vs (.of g)
      rw [hv] at this
      cases this
      refine ⟨m.same (same_upd hT), T, .int (i : Nat), _, rfl, upd_same, ?_, rv⟩
      show V.int _ = V.int _
      rw [Nat.zero_add]
  · obtain ⟨vs, g, r⟩ := m.tup (le.get e1) (live_one lv)
    refine ⟨vs, .of g, ?_, (Paired.length r).symm⟩
    rw [← Paired.length r, ← hi, (enumY_get xs 0 0).1]
    exact Nat.le_refl _
theorem zip_get {xs ys : List Va} {i : Nat} {y : Ya} (h : ((xs.zip ys).map fun p => Ya.two p.1 p.2)[i]? = some y) : ∃ a b, y = .two a b ∧ xs[i]? = some a ∧ ys[i]? = some b := by
  rw [List.getElem?_map] at h
  cases q : (xs.zip ys)[i]? with
  | none => rw [q] at h; cases h
  | some p =>
    rw [q] at h
    cases h
    obtain ⟨h1, h2⟩ := List.getElem?_zip_eq_some.mp q
    exact ⟨_, _, rfl, h1, h2⟩
theorem walk_zip {ρ0 : List Addr} {l l2 : Nat} {p p2 : Addr} {xs ys : List Va} (e1 : ρ0[l]? = some p) (e2 : ρ0[l2]? = some p2) : WalkOk S ρ0 (Itz S.K p p2) ([(l, .lst xs)] ++ [(l2, .lst ys)]) ((xs.zip ys).map fun p => .two p.1 p.2) := by
  refine ⟨fun i y ρ h H le m lv hy => ?_, fun i ρ h H le m lv hi => ?_⟩
  · obtain ⟨lv1, lv2⟩ := live_app lv
    obtain ⟨vs, g, r⟩ := m.lst (le.get e1) (live_one lv1)
    obtain ⟨ws, g2, r2⟩ := m.lst (le.get e2) (live_one lv2)
    obtain ⟨a, b, rfl, hx, hy⟩ := zip_get hy
    obtain ⟨v, hv, rv⟩ := Paired.get r hx
    obtain ⟨w, hw, rw'⟩ := Paired.get r2 hy
    refine ⟨⟨vs, ws, v, w, .of g, .of g2, hv, hw⟩, fun x H' ⟨T, z1, z2, e, hT, eH, q, q2⟩ => ?_⟩
    subst e eH
    have := q vs (.of g)
    rw [hv] at this
    cases this
    have := q2 ws (.of g2)
    rw [hw] at this
    cases this
    exact ⟨m.same (same_upd hT), T, _, _, rfl, upd_same, rv, rw'⟩
  · obtain ⟨lv1, lv2⟩ := live_app lv
    obtain ⟨vs, g, r⟩ := m.lst (le.get e1) (live_one lv1)
    obtain ⟨ws, g2, r2⟩ := m.lst (le.get e2) (live_one lv2)
    refine ⟨vs, ws, .of g, .of g2, ?_⟩
    rw [← Paired.length r, ← Paired.length r2, ← hi, List.length_map, List.length_zip]
    omega
theorem walk_zipT {ρ0 : List Addr} {l l2 : Nat} {p p2 : Addr} {xs ys : List Va} (e1 : ρ0[l]? = some p) (e2 : ρ0[l2]? = some p2) : WalkOk S ρ0 (RZ.ItzT S.K p p2) ([(l, .tup xs)] ++ [(l2, .tup ys)]) ((xs.zip ys).map fun p => .two p.1 p.2) := by
  refine ⟨fun i y ρ h H le m lv hy => ?_, fun i ρ h H le m lv hi => ?_⟩
  · obtain ⟨lv1, lv2⟩ := live_app lv
    obtain ⟨vs, g, r⟩ := m.tup (le.get e1) (live_one lv1)
    obtain ⟨ws, g2, r2⟩ := m.tup (le.get e2) (live_one lv2)
    obtain ⟨a, b, rfl, hx, hy⟩ := zip_get hy
    obtain ⟨v, hv, rv⟩ := Paired.get r hx
    obtain ⟨w, hw, rw'⟩ := Paired.get r2 hy
    refine ⟨⟨vs, ws, v, w, .of g, .of g2, hv, hw⟩, fun x H' ⟨T, z1, z2, e, hT, eH, q, q2⟩ => ?_⟩
    subst e eH
    have := q vs (.of g)
    rw [hv] at this
    cases this
    have := q2 ws (.of g2)
    rw [hw] at this
    cases this
    exact ⟨m.same (same_upd hT), T, _, _, rfl, upd_same, rv, rw'⟩
  · obtain ⟨lv1, lv2⟩ := live_app lv
    obtain ⟨vs, g, r⟩ := m.tup (le.get e1) (live_one lv1)
    obtain ⟨ws, g2, r2⟩ := m.tup (le.get e2) (live_one lv2)
    refine ⟨vs, ws, .of g, .of g2, ?_⟩
    rw [← Paired.length r, ← Paired.length r2, ← hi, List.length_map, List.length_zip]
    omega
theorem no_set {iter : Expr} {env : Env} (h : isSet iter = false) : ∀ x, foldedSetIterable iter env x = pure x := by
  intro x
  cases iter <;> first | rfl | cases h

/-! ### the iterators by the text -/
theorem iS_run {tg iter : Expr} {f : Sl → Hh → RE Itr} (h : ∀ (pins : List (Addr × Obj)) (s : Shared) (τ : L2.St) (H : Hp) (R : L2.It → Hp → Prop) (ρ : List Addr) (σ : Sl) (h : Hh), Inv X pins τ H s → RS S ρ σ τ → Mo S ρ h H → Out S (fun ρ (w : Itr) (J : L2.It) => WalkOk S ρ J w.src w.ys) W ρ (f σ h) τ R →
    wpAny (model X.prog X.w) X.A (eval iter X.env) (fun v s1 => wpAny (model X.prog X.w) X.A (pyIter v) (PIE X pins τ tg R) X.xe s1) X.xe s) : PI X tg iter (iS S W f) :=
  ⟨fun pins s τ H R I ⟨ρ, σ, hh, rs, mo, o⟩ => h pins s τ H R ρ σ hh I rs mo o⟩
theorem pi_valS {tg e : Expr} {u : E} (G : Good S W C X c) (he : PE X e (rdE S W (ev C u))) : PI X tg e (iS S W (evIt C (.val u))) := by
  refine iS_run fun pins s τ H R ρ σ h I rs mo o => ?_
  have kk := G.k
  have o : Out S (fun ρ (w : Itr) (J : L2.It) => WalkOk S ρ J w.src w.ys) W ρ ((ev C u σ h).bind fun x h1 => match seqOf h1 x with
    | some (s, xs) => .ok ⟨s, xs.map .one⟩ h1
    | none => .bad) τ R := o
  have viaL : (∀ a h1, ev C u σ h = .ok a h1 → ∃ l xs, a = .ref l ∧ h1[l]? = some (.lst xs)) → wpAny (model X.prog X.w) X.A (eval e X.env) (fun v s1 => wpAny (model X.prog X.w) X.A (pyIter v) (PIE X pins τ tg R) X.xe s1) X.xe s := fun hk => by
    refine (pi_list he).run pins s τ H R I ?_
    rw [kk]
    refine rd.mono (out_bindE rs mo o) fun x H1 ⟨ρ2, h1, a, le, m1, ra, q1, o1⟩ => ?_
    obtain ⟨l, xs, rfl, q⟩ := hk a h1 q1
    obtain ⟨p, e1, rfl⟩ := ra
    obtain ⟨vs, g, r⟩ := m1.lst e1 q
    have es : seqOf h1 (.ref l) = some ([(l, .lst xs)], xs) := by unfold seqOf; simp only [q]
    rw [es] at o1
    exact ⟨p, rfl, ⟨vs, .of g⟩, o1 ρ2 _ _ .refl m1 (walk_list e1)⟩
  have viaT : (∀ a h1, ev C u σ h = .ok a h1 → ∃ l xs, a = .ref l ∧ h1[l]? = some (.tup xs)) → wpAny (model X.prog X.w) X.A (eval e X.env) (fun v s1 => wpAny (model X.prog X.w) X.A (pyIter v) (PIE X pins τ tg R) X.xe s1) X.xe s := fun hk => by
    refine (pi_tup he).run pins s τ H R I ?_
    rw [kk]
    refine rd.mono (out_bindE rs mo o) fun x H1 ⟨ρ2, h1, a, le, m1, ra, q1, o1⟩ => ?_
    obtain ⟨l, xs, rfl, q⟩ := hk a h1 q1
    obtain ⟨p, e1, rfl⟩ := ra
    obtain ⟨vs, g, r⟩ := m1.tup e1 q
    have es : seqOf h1 (.ref l) = some ([(l, .tup xs)], xs) := by unfold seqOf; simp only [q]
    rw [es] at o1
    exact ⟨p, rfl, ⟨vs, .of g⟩, o1 ρ2 _ _ .refl m1 (walk_tup e1)⟩
  cases q : ev C u σ h with
  | bad => rw [q] at o; exact o.elim
  | exc cc d h1 => exact viaL fun a h1 e => by rw [q] at e; cases e
  | ok a h1 =>
    rw [q] at o
    have o : Out S (fun ρ (w : Itr) (J : L2.It) => WalkOk S ρ J w.src w.ys) W ρ (match seqOf h1 a with
      | some (s, xs) => RE.ok (⟨s, xs.map .one⟩ : Itr) h1
      | none => .bad) τ R := o
    cases a with
    | ref l =>
      cases ql : h1[l]? with
      | none => exact absurd o (by rw [show seqOf h1 (.ref l) = none by (unfold seqOf; simp only [ql])]; exact id)
      | some ob =>
        cases ob with
        | lst xs => exact viaL fun a h2 e => by rw [q] at e; cases e; exact ⟨l, xs, rfl, ql⟩
        | tup xs => exact viaT fun a h2 e => by rw [q] at e; cases e; exact ⟨l, xs, rfl, ql⟩
        | dK xs => exact absurd o (by rw [show seqOf h1 (.ref l) = none by (unfold seqOf; simp only [ql])]; exact id)
        | dT xs => exact absurd o (by rw [show seqOf h1 (.ref l) = none by (unfold seqOf; simp only [ql])]; exact id)
        | xd xs => exact absurd o (by rw [show seqOf h1 (.ref l) = none by (unfold seqOf; simp only [ql])]; exact id)
    | _ => exact o.elim
theorem rngV_one {x : Va} {i j : Int} (e : rngV [x] = some (i, j)) : x = .int j ∧ i = 0 ∧ -(2 ^ 62) ≤ j ∧ j < 2 ^ 62 := by
  unfold rngV at e
  split at e
  · rename_i y heq
    cases heq
    split at e
    · rename_i hb
      cases e
      exact ⟨rfl, rfl, hb.1, hb.2⟩
    · cases e
  · rename_i heq; cases heq
  · cases e
theorem rngV_two {x y : Va} {i j : Int} (e : rngV [x, y] = some (i, j)) : x = .int i ∧ y = .int j ∧ -(2 ^ 62) ≤ i ∧ i < 2 ^ 62 ∧ -(2 ^ 62) ≤ j ∧ j < 2 ^ 62 := by
  unfold rngV at e
  split at e
  · rename_i heq; cases heq
  · rename_i heq
    cases heq
    split at e
    · rename_i hb
      cases e
      exact ⟨rfl, rfl, hb⟩
    · cases e
  · cases e
theorem pi_rngS {tg : Expr} {as : List Expr} {u : Es} {x : Str} {f : Expr → Option E} {p pos : Pos} (G : Good S W C X c) (hf : Sub S W C X f) (hx : x = "range") (hB : isB c x = true) (ha : cAs f as = some u) (hl : as.length = 1 ∨ as.length = 2) : PI X tg (.Call (.Name x p) as [] pos) (iS S W (evIt C (.rng u))) := by
  subst hx
  obtain ⟨g1, g2, g3, g4⟩ := G.bl hB (by simp [usedB])
  obtain ⟨hs, hA⟩ := cAs_ok hf _ u ha
  match as, hl with
  | [a], _ =>
    refine PI.weak (pi_range1 g1 g4 hA (by rw [starEach_plain (hs a List.mem_cons_self)]; rfl)) fun τ H R ⟨ρ, σ, h, rs, mo, o⟩ => ?_
    refine rd.mono (out_bindE (f := evs C u) rs mo o) fun vs H1 ⟨ρ2, h1, b, le, m1, rb, q1, o1⟩ => ?_
    have n1 := evs_len _ u ha σ h b h1 q1
    match b, n1 with
    | [b], _ =>
      split at o1
      · rename_i i j e
        obtain ⟨rfl, rfl, e1, e2⟩ := rngV_one e
        obtain ⟨y, rfl, ry⟩ := one_rel rb
        cases ry
        refine ⟨j, rfl, e1, e2, o1 ρ2 _ _ .refl m1 ?_⟩
        obtain ⟨l1, l2⟩ := rngY_get 0 j
        rw [show j - 0 = j by omega] at l1 l2
        exact walk_rng l1 l2
      · exact o1.elim
  | [a, a2], _ =>
    have s1 := hs a List.mem_cons_self
    have s2 := hs a2 (List.mem_cons_of_mem _ List.mem_cons_self)
    refine PI.weak (pi_range2 g1 g4 hA (by rw [starEach_plain s1, starEach_plain s2]; rfl) (by rw [starEach_plain s2]; rfl)) fun τ H R ⟨ρ, σ, h, rs, mo, o⟩ => ?_
    refine rd.mono (out_bindE (f := evs C u) rs mo o) fun vs H1 ⟨ρ2, h1, b, le, m1, rb, q1, o1⟩ => ?_
    have n1 := evs_len _ u ha σ h b h1 q1
    match b, n1 with
    | [b, b2], _ =>
      split at o1
      · rename_i i j e
        obtain ⟨rfl, rfl, e1⟩ := rngV_two e
        obtain ⟨y, z, rfl, ry, rz⟩ := two_rel rb
        cases ry
        cases rz
        obtain ⟨l1, l2⟩ := rngY_get i j
        exact ⟨i, j, rfl, e1, o1 ρ2 _ _ .refl m1 (walk_rng l1 l2)⟩
      · exact o1.elim
theorem pi_zipS {a b : Expr} {u v : E} {x : Str} {elts : List Expr} {kk : Nat} {tpos p pos : Pos} (G : Good S W C X c) (hx : x = "zip") (hB : isB c x = true) (ha : PE X a (rdE S W (ev C u))) (hb : PE X b (rdE S W (ev C v))) (sa : isStar a = false) (sb : isStar b = false) :
    PI X (.Tuple elts kk tpos) (.Call (.Name x p) [a, b] [] pos) (iS S W (evIt C (.zip u v))) := by
  subst hx
  obtain ⟨g1, g2, g3, g4⟩ := G.bl hB (by simp [usedB])
  refine PI.weak (RZ.pi_zipA g1 g4 (pa_consS ha (pa_consS hb pa_nilS sb) sa) (starEach_plain sa) (noStar_any fun e' he => by
    rcases List.mem_cons.mp he with rfl | he
    · exact sb
    · cases he)) fun τ H R ⟨ρ, σ, h, rs, mo, o⟩ => ?_
  rw [G.k]
  refine rd.mono (out_bind (R := RVs S) (R' := fun ρ (w : Itr) (J : L2.It) => WalkOk S ρ J w.src w.ys) (W := W) (Q := R) (τ := τ) (f := fun σ h => (ev C u σ h).bind fun x h1 => ((ev C v σ h1).bind fun y h2 => (RE.ok ([] : List Va) h2).bind fun xs h3 => RE.ok (y :: xs) h3).bind fun xs h2 => RE.ok (x :: xs) h2) (k := fun vs h2 => match vs with
    | [x, y] => (match seqOf h2 x, seqOf h2 y with
      | some (s, xs), some (t, ys) => if sameK s t = true then RE.ok (⟨s ++ t, (xs.zip ys).map fun p => .two p.1 p.2⟩ : Itr) h2 else .bad
      | _, _ => .bad)
    | _ => .bad) rs mo ?_) fun vs H1 ⟨ρ2, h1, bs, le, m1, rb, o1⟩ => ?_
  · have e : ∀ (r : RE Va) (k : Hh → RE Va) (K : List Va → Hh → RE Itr), ((r.bind fun x h1 => ((k h1).bind fun y h2 => (RE.ok ([] : List Va) h2).bind fun xs h3 => RE.ok (y :: xs) h3).bind fun xs h2 => RE.ok (x :: xs) h2).bind K) = r.bind fun x h1 => (k h1).bind fun y h2 => K [x, y] h2 := fun r k K => by
      cases r with
      | ok x h1 => show (((k h1).bind _).bind _).bind _ = (k h1).bind _; cases k h1 <;> rfl
      | exc _ _ _ => rfl
      | bad => rfl
    rw [e]
    exact o
  · split at o1
    · rename_i x y
      obtain ⟨xv, yv, rfl, rx, ry⟩ := two_rel rb
      split at o1
      · rename_i s1 xs s2 ys q1 q2
        split at o1
        case isFalse => exact o1.elim
        rename_i hk
        obtain ⟨l, p1, vs, rfl, e1, rfl, r, c1⟩ := seqOf_rel m1 rx q1
        obtain ⟨l2, p2, ws, rfl, e2, rfl, r2, c2⟩ := seqOf_rel m1 ry q2
        rcases c1 with ⟨rfl, h1, g1⟩ | ⟨rfl, h1, g1⟩
        · rcases c2 with ⟨rfl, h2, g2⟩ | ⟨rfl, h2, g2⟩
          · exact ⟨p1, p2, vs, ws, rfl, .inl ⟨.of g1, .of g2, o1 ρ2 _ _ .refl m1 (walk_zip e1 e2)⟩⟩
          · cases hk
        · rcases c2 with ⟨rfl, h2, g2⟩ | ⟨rfl, h2, g2⟩
          · cases hk
          · exact ⟨p1, p2, vs, ws, rfl, .inr ⟨.of g1, .of g2, o1 ρ2 _ _ .refl m1 (walk_zipT e1 e2)⟩⟩
      · exact o1.elim
    · exact o1.elim
theorem pi_enumS {a : Expr} {u : E} {x : Str} {elts : List Expr} {kk : Nat} {tpos p pos : Pos} (G : Good S W C X c) (hx : x = "enumerate") (hB : isB c x = true) (ha : PE X a (rdE S W (ev C u))) (sa : isStar a = false) :
    PI X (.Tuple elts kk tpos) (.Call (.Name x p) [a] [] pos) (iS S W (evIt C (.enum u))) := by
  subst hx
  obtain ⟨g1, g2, g3, g4⟩ := G.bl hB (by simp [usedB])
  refine PI.weak (pi_enumA g1 g4 (pa_consS ha pa_nilS sa) (by rw [starEach_plain sa]; rfl)) fun τ H R ⟨ρ, σ, h, rs, mo, o⟩ => ?_
  rw [G.k]
  refine rd.mono (out_bind (R := RVs S) (R' := fun ρ (w : Itr) (J : L2.It) => WalkOk S ρ J w.src w.ys) (W := W) (Q := R) (τ := τ) (f := fun σ h => (ev C u σ h).bind fun x h1 => (RE.ok ([] : List Va) h1).bind fun xs h2 => RE.ok (x :: xs) h2) (k := fun vs h2 => match vs with
    | [x] => (match seqOf h2 x with
      | some (s, xs) => RE.ok (⟨s, enumY 0 xs⟩ : Itr) h2
      | none => .bad)
    | _ => .bad) rs mo ?_) fun vs H1 ⟨ρ2, h1, bs, le, m1, rb, o1⟩ => ?_
  · have e : ∀ (r : RE Va) (K : List Va → Hh → RE Itr), ((r.bind fun x h1 => (RE.ok ([] : List Va) h1).bind fun xs h2 => RE.ok (x :: xs) h2).bind K) = r.bind fun x h1 => K [x] h1 := fun r K => by cases r <;> rfl
    rw [e]
    exact o
  · split at o1
    · obtain ⟨xv, rfl, rx⟩ := one_rel rb
      split at o1
      · rename_i s1 xs q1
        obtain ⟨l, p1, vs, rfl, e1, rfl, r, c1⟩ := seqOf_rel m1 rx q1
        rcases c1 with ⟨rfl, h1, g1⟩ | ⟨rfl, h1, g1⟩
        · exact ⟨p1, vs, rfl, .inl ⟨.of g1, o1 ρ2 _ _ .refl m1 (walk_enum e1)⟩⟩
        · refine ⟨p1, vs, rfl, .inr ⟨.of g1, ?_⟩⟩
          rw [← Paired.length r]
          exact o1 ρ2 _ _ .refl m1 (walk_enumT e1)
      · exact o1.elim
    · exact o1.elim
theorem cIt_ok {tg e : Expr} {it : It} {f : Expr → Option E} (G : Good S W C X c) (hf : Sub S W C X f) (h : cIt c f e = some it) (hp : itPair it = true → isPair tg = true) : PI X tg e (iS S W (evIt C it)) ∧ isSet e = false := by
  have pr : itPair it = true → ∃ elts kk tpos, tg = .Tuple elts kk tpos := fun h1 => by
    have := hp h1
    cases tg <;> first | exact ⟨_, _, _, rfl⟩ | cases this
  unfold cIt at h
  split at h
  · rename_i x p as pos
    refine ⟨?_, rfl⟩
    split at h
    · rename_i hb
      split at h
      · rename_i es ea
        split at h
        · cases h
          exact pi_rngS G hf hb.2 hb.1 ea (.inl rfl)
        · cases h
          exact pi_rngS G hf hb.2 hb.1 ea (.inr rfl)
        · cases h
      · cases h
    · split at h
      · rename_i hb
        split at h
        · rename_i a b
          split at h
          · cases h
          · rename_i hs
            have sa : isStar a = false := by
              cases q : isStar a with
              | false => rfl
              | true => exact absurd (.inl q) hs
            have sb : isStar b = false := by
              cases q : isStar b with
              | false => rfl
              | true => exact absurd (.inr q) hs
            split at h
            · rename_i u v eu ev_
              cases h
              obtain ⟨elts, kk, tpos, rfl⟩ := pr rfl
              exact pi_zipS G hb.2 hb.1 (hf a u eu).1 (hf b v ev_).1 sa sb
            · cases h
        · cases h
      · split at h
        · rename_i hb
          split at h
          · rename_i a
            split at h
            · cases h
            · rename_i hs
              have sa : isStar a = false := by simpa using hs
              split at h
              · rename_i u eu
                cases h
                obtain ⟨elts, kk, tpos, rfl⟩ := pr rfl
                exact pi_enumS G hb.2 hb.1 (hf a u eu).1 sa
              · cases h
          · cases h
        · split at h
          · rename_i u eu
            cases h
            exact pi_valS G (hf _ u eu).1
          · cases h
  · split at h
    · cases h
    · rename_i hs
      split at h
      · rename_i u eu
        cases h
        exact ⟨pi_valS G (hf _ u eu).1, by simpa using hs⟩
      · cases h
end HA

namespace HA
open PySem PySem.Spec PyProof.Rows L2
variable {S : Fx} {W : WX} {C : Cf} {X : Cx} {c : Cc}

/-! ### comprehensions -/
abbrev WF : WX := fun _ _ _ _ => False
theorem Good.blk (G : Good S W C X c) (s : Shared) (H : Hp) (scope : Scope) (cl : List (Str × Addr)) (Ca : Addr) (fp : List Addr) : Good S WF C (X.blk s H scope (compEnvC scope cl Ca X.env) fp) { c with sc := L2.relS scope c.sc, blk := some scope } where
  hN := G.hN
  nd := G.nd
  sc := by
    show L2.relS scope X.env.scope = L2.relS scope c.sc
    rw [G.sc]
  calm := G.calm
  fn := fun x h => by
    show (scope.names.lookup x == some .cell) = true
    have h : (match scope.names.lookup x with
      | some .cell => true
      | _ => false) = true := h
    split at h
    · rename_i e; rw [e]; rfl
    · cases h
  k := G.k
  ns := G.ns
  units := G.units
  guards := G.guards
  blt := G.blt
  calls := fun x g ps e => ⟨(G.calls x g ps e).ex⟩
  takes := fun σ pins H s e s' I c => by
    obtain ⟨a, B, H', cls, d, _, _, _, _, _, _, _, z⟩ := c
    exact z.elim
theorem RS.wipe {ρ : List Addr} {σ : Sl} {τ : L2.St} (r : RS S ρ σ τ) : ∀ vs : List Nat, RS S ρ (wipeA σ vs) (L2.wipe τ vs)
  | [] => r
  | v :: vs => by
    have h := RS.wipe r vs
    unfold wipeA L2.wipe
    refine ⟨by rw [List.length_set, List.length_set]; exact h.1, fun j y e => ?_⟩
    rw [List.getElem?_set] at e
    rw [List.getElem?_set, ← h.1]
    split at e
    · split at e
      · cases e
      · cases e
    · rename_i hij
      obtain ⟨w, h1, h2⟩ := h.2 j y e
      exact ⟨w, by rw [if_neg hij]; exact h1, h2⟩
theorem wipe_sub {τ : L2.St} {vs : List Nat} : ∀ {us : List Nat}, (∀ i ∈ us, i ∈ vs) → L2.wipe (L2.wipe τ us) vs = L2.wipe τ vs
  | [], _ => rfl
  | u :: us, h => by
    show L2.wipe ((L2.wipe τ us).set u none) vs = _
    rw [wipe_set (h u List.mem_cons_self), wipe_sub fun i hi => h i (List.mem_cons_of_mem _ hi)]
theorem wipe_idem (τ : L2.St) (vs : List Nat) : L2.wipe (L2.wipe τ vs) vs = L2.wipe τ vs := wipe_sub fun _ h => h
/-- a part within a comprehension's turn: nothing flies -/
theorem out_ne {α β γ δ ε : Type} {R0 : List Addr → α → β → Prop} {R : List Addr → δ → ε → Prop} {ρ : List Addr} {r : RE α} {k : α → Hh → RE γ} {K : γ → Hh → RE δ} {τ τ1 : L2.St} {Q : ε → Hp → Prop} (o : Out S R W ρ ((noExc (r.bind k)).bind K) τ Q) :
    Out S R0 WF ρ r τ1 (fun x H1 => ∃ ρ2 h1 a, Le ρ ρ2 ∧ Mo S ρ2 h1 H1 ∧ R0 ρ2 a x ∧ Out S R W ρ2 ((noExc (k a h1)).bind K) τ Q) := by
  cases r with
  | ok v h1 => exact fun ρ' x H' le m r => ⟨ρ', h1, v, le, m, r, Out.le (r := (noExc (k v h1)).bind K) o le⟩
  | exc c d h1 => exact o.elim
  | bad => exact o.elim
theorem compGo_cons {D : Nat} {src : List (Nat × Ob)} {body : Ya → Hh → RE (Option Va)} {y : Ya} {ys : List Ya} {h : Hh} : compGo D src body (y :: ys) h = if live src h = true then
      (body y h).bind fun r h1 => match r with
        | none => compGo D src body ys h1
        | some v => match h1[D]? with
          | some (.lst acc) => if acc.length < BIG then compGo D src body ys (h1.set D (.lst (acc ++ [v]))) else .bad
          | _ => .bad
    else .bad := rfl
theorem tLcS {it : It} {own : List Nat} {t : Tg} {cnd : Sl → Hh → RE Bool} {elt : Sl → Hh → RE Va} (hK : X.K = S.K) (ht : ∀ i ∈ tgSlots t, i ∈ own) {τ : L2.St} {H : Hp} {Q : VK}
    (h : rdE S W (fun σ h => (evIt C it σ h).bind fun w h1 => compGo h1.length w.src (compBody own t cnd elt σ) w.ys (h1 ++ [.lst []])) τ H Q) :
    tLc (iS S W (evIt C it)) (gT S t) (rdT S WF cnd) (rdE S WF elt) own τ H Q := by
  obtain ⟨ρ, σ, h, rs, mo, o⟩ := h
  refine rd.mono (out_bind rs mo o) fun J H1 ⟨ρ2, h1, w, le, m1, wk, o1⟩ D hD => ?_
  have rs2 := rs.le le
  refine ⟨fun i m H => ∃ ρ3 h3, Le (ρ2 ++ [D]) ρ3 ∧ Mo S ρ3 h3 H ∧ i + m = w.ys.length ∧ Out S (RV S) W ρ3 (compGo h1.length w.src (compBody own t cnd elt σ) (w.ys.drop i) h3) τ Q, ⟨w.ys.length, ρ2 ++ [D], h1 ++ [.lst []], .refl, m1.new (o := .lst []) (ho := .lst []) hD ⟨_, rfl, .nil⟩, by omega, Out.le o1 ⟨[D], rfl⟩⟩, ?_⟩
  rintro i m H3 ⟨ρ3, h3, le3, m3, him, o3⟩
  have le23 : Le ρ2 ρ3 := Le.trans ⟨[D], rfl⟩ le3
  have eD : ρ3[h1.length]? = some D := le3.get (by rw [← m1.len]; simp)
  cases hy : w.ys[i]? with
  | none =>
    have hi : w.ys.length ≤ i := List.getElem?_eq_none_iff.mp hy
    rw [List.drop_of_length_le hi] at o3
    have o3 : Out S (RV S) W ρ3 (if live w.src h3 = true then .ok (.ref h1.length) h3 else .bad) τ Q := o3
    split at o3
    · rename_i lv
      exact .inl ⟨wk.stop i ρ3 h3 H3 le23 m3 lv (by omega), o3 ρ3 (.ref D) H3 .refl m3 ⟨D, eD, rfl⟩⟩
    · exact o3.elim
  | some y =>
    have hi : i < w.ys.length := (List.getElem?_eq_some_iff.mp hy).1
    rw [List.drop_eq_getElem_cons hi, show w.ys[i] = y from (List.getElem?_eq_some_iff.mp hy).2, compGo_cons] at o3
    split at o3
    · rename_i lv
      obtain ⟨hgo, hyl⟩ := wk.go i y ρ3 h3 H3 le23 m3 lv hy
      refine .inr ⟨hgo, fun H => ∃ ρ4 h4, Le (ρ2 ++ [D]) ρ4 ∧ Mo S ρ4 h4 H ∧ Out S (RV S) W ρ4 (compGo h1.length w.src (compBody own t cnd elt σ) (w.ys.drop (i + 1)) h4) τ Q, fun H' ⟨ρ4, h4, a, b, e⟩ => ⟨m - 1, by omega, ρ4, h4, a, b, by omega, e⟩, fun x H4 q => ?_⟩
      obtain ⟨m4, yr⟩ := hyl x H4 q
      unfold compBody at o3
      split at o3
      · rename_i σ1 e1
        refine ⟨ρ3, wipeA σ own, h3, y, σ1, (rs2.le le23).wipe own, m4, yr, e1, fun τ1 rs1 on => ?_⟩
        refine ⟨by rw [on own ht]; exact wipe_idem _ _, ?_⟩
        refine ⟨ρ3, σ1, h3, rs1, m4, ?_⟩
        refine (out_ne (R0 := fun _ (a b : Bool) => a = b) o3).mono fun b H5 ⟨ρ5, h5, b', le5, m5, eb, o5⟩ => ?_
        subst eb
        cases b' with
        | false =>
          rw [if_neg (by decide)]
          exact ⟨ρ5, h5, le3.trans le5, m5, o5⟩
        | true =>
          rw [if_pos rfl]
          refine ⟨ρ5, σ1, h5, rs1.le le5, m5, ?_⟩
          refine (out_ne (R0 := RV S) (k := fun v h2 => RE.ok (some v) h2) o5).mono fun z H6 ⟨ρ6, h6, v, le6, m6, rv, o6⟩ => ?_
          have o6 : Out S (RV S) W ρ6 (match h6[h1.length]? with
            | some (.lst acc) => if acc.length < BIG then compGo h1.length w.src (compBody own t cnd elt σ) (w.ys.drop (i + 1)) (h6.set h1.length (.lst (acc ++ [v]))) else .bad
            | _ => .bad) τ Q := o6
          split at o6
          · rename_i acc qa
            split at o6
            · rename_i hz
              have eD6 : ρ6[h1.length]? = some D := (le5.trans le6).get eD
              obtain ⟨vs, g, r⟩ := m6.lst eD6 qa
              refine ⟨vs, g, by rw [← big_eq, ← Paired.length r]; exact hz, ρ6, _, le3.trans (le5.trans le6), m6.set (o' := .lst (acc ++ [v])) (ho' := .lst (vs ++ [z])) eD6 qa (fun _ z => by cases z) (fun _ z => by cases z) ⟨_, rfl, Paired.app r (.cons rv .nil)⟩, o6⟩
            · exact o6.elim
          · exact o6.elim
      · exact o3.elim
    · exact o3.elim

/-! ### the tests of a comprehension, and all of it -/
def cndOf (C : Cf) : Es → Sl → Hh → RE Bool
  | .nil => fun _ h => .ok true h
  | .cons c _ => fun σ h => tst (ev C c σ h)
  | .star _ _ => fun _ _ => .bad
theorem pts_ok {f : Expr → Option E} (hf : Sub S WF C X f) {ifs : List Expr} {cs : Es} (h : cEs f ifs = some cs) (h1 : ifs.length ≤ 1) (h2 : (ifs.all fun e => !isStar e) = true) : PTs X ifs (rdT S WF (cndOf C cs)) := by
  match ifs, h1 with
  | [], _ =>
    cases h
    refine ⟨fun pins s τ H Q I ⟨ρ, σ, h, rs, mo, o⟩ => pts_nil.run pins s τ H Q I (o ρ true H .refl mo rfl)⟩
  | [e], _ =>
    have hs : isStar e = false := by
      have h2 : (!isStar e && true) = true := h2
      simpa using h2
    unfold cEs at h
    split at h
    · rename_i q; cases q
    · rename_i q; cases q; cases hs
    · rename_i e' r hn q
      cases q
      split at h
      · rename_i x xs ex exs
        cases h
        exact pts_one (hf e x ex).2
      · cases h
theorem comp_eq (it : It) (vs : List Nat) (t : Tg) (cs : Es) (x : E) : ev C (.comp it vs t cs x) = fun σ h => (evIt C it σ h).bind fun w h1 => compGo h1.length w.src (compBody vs t (cndOf C cs) (ev C x) σ) w.ys (h1 ++ [.lst []]) := by
  funext σ h
  cases cs <;> rfl
structure LcOk (S : Fx) (W : WX) (C : Cf) (X : Cx) (tg iter : Expr) (ifs : List Expr) (elt : Expr) (scope : Scope) (own : List (Str × Nat)) (it : It) (t : Tg) (cs : Es) (x : E) : Prop where
  i : PI X tg iter (iS S W (evIt C it))
  ns : isSet iter = false
  b : BlkOk X.N X.env.scope scope own
  g : ∀ (s : Shared) (H : Hp) (Ca : Addr) (cl : List (Str × Addr)) (fp : List Addr), PG (X.blk s H scope (compEnvC scope cl Ca X.env) fp) tg (gT S t)
  c : ∀ (s : Shared) (H : Hp) (Ca : Addr) (cl : List (Str × Addr)) (fp : List Addr), PTs (X.blk s H scope (compEnvC scope cl Ca X.env) fp) ifs (rdT S WF (cndOf C cs))
  e : ∀ (s : Shared) (H : Hp) (Ca : Addr) (cl : List (Str × Addr)) (fp : List Addr), PE (X.blk s H scope (compEnvC scope cl Ca X.env) fp) elt (rdE S WF (ev C x))
  t : ∀ i ∈ tgSlots t, i ∈ own.map (·.2)
theorem pe_lcS {tg iter : Expr} {ifs : List Expr} {elt : Expr} {scope : Scope} {own : List (Str × Nat)} {it : It} {t : Tg} {cs : Es} {x : E} {pos : Pos} (G : Good S W C X c) (L : LcOk S W C X tg iter ifs elt scope own it t cs x) :
    PE X (.ListComp elt [⟨tg, iter, ifs, 0⟩] scope pos) (rdE S W (ev C (.comp it (own.map (·.2)) t cs x))) :=
  PE.weak (pe_lc G.calm (cTgt_nd G) L.i L.b L.g L.c L.e (no_set L.ns)) fun τ H Q h => by
    rw [comp_eq] at h
    exact tLcS G.k L.t h
end HA

namespace HA
open PySem PySem.Spec PyProof.Rows L2
variable {S : Fx} {W : WX} {C : Cf} {X : Cx} {c : Cc}

theorem pt_isNS {a : Expr} {u : E} {pos p : Pos} {k : Nat} (ha : PE X a (rdE S W (ev C u))) : PT X (.Compare a [.Is] [.Constant .none k p] pos) (rdT S W (fun σ h => tst (ev C (.isN false u) σ h))) := by
  refine PT.weak (pt_cmp (pc_isN ha)) fun τ H Q h => ?_
  obtain ⟨ρ, σ, h, rs, mo, o⟩ := rd_isN h
  refine rd.mono (out_bind (f := ev C u) rs mo o) fun x H1 ⟨ρ2, h1, x', le, m1, ra, o1⟩ => ?_
  have e : decide (x = .non) = (false ^^ decide (x' = .non)) := by
    rw [Bool.false_xor]
    cases x' with
    | non => rw [show x = .non from ra]; rfl
    | bl b => rw [show x = .bl b from ra]; rfl
    | int b => rw [show x = .int b from ra]; rfl
    | str b => rw [show x = .str b from ra]; rfl
    | ref l => obtain ⟨p, _, e⟩ := ra; rw [e]; rfl
    | scr => rw [show x = .ref S.sa from ra]; rfl
  rw [e]
  exact o1 ρ2 _ H1 .refl m1 rfl
theorem pt_notNS {a : Expr} {u : E} {pos p : Pos} {k : Nat} (ha : PE X a (rdE S W (ev C u))) : PT X (.Compare a [.IsNot] [.Constant .none k p] pos) (rdT S W (fun σ h => tst (ev C (.isN true u) σ h))) := by
  refine PT.weak (pt_cmp (pc_notN ha)) fun τ H Q h => ?_
  obtain ⟨ρ, σ, h, rs, mo, o⟩ := rd_isN h
  refine rd.mono (out_bind (f := ev C u) rs mo o) fun x H1 ⟨ρ2, h1, x', le, m1, ra, o1⟩ => ?_
  have e : (!decide (x = .non)) = (true ^^ decide (x' = .non)) := by
    rw [Bool.true_xor]
    cases x' with
    | non => rw [show x = .non from ra]; rfl
    | bl b => rw [show x = .bl b from ra]; rfl
    | int b => rw [show x = .int b from ra]; rfl
    | str b => rw [show x = .str b from ra]; rfl
    | ref l => obtain ⟨p, _, e⟩ := ra; rw [e]; rfl
    | scr => rw [show x = .ref S.sa from ra]; rfl
  rw [e]
  exact o1 ρ2 _ H1 .refl m1 rfl
/-- both readings, where the test is the plain one -/
theorem both {e : Expr} {u : E} (G : Good S W C X c) (h : PE X e (rdE S W (ev C u))) (hi : ∀ whole, isTrue e X.env whole = (do let v ← whole; standAt e.pos; holding [v] (truthy v))) : PE X e (rdE S W (ev C u)) ∧ PT X e (rdT S W (fun σ h => tst (ev C u σ h))) := ⟨h, pt_any G.k h hi⟩
theorem none_of {b : Expr} (h : isNone b = true) : ∃ k p, b = .Constant .none k p := by
  cases b <;> first
    | (cases h; done)
    | (rename_i c k p; cases c <;> first | (cases h; done) | exact ⟨_, _, rfl⟩)
abbrev Both (S : Fx) (W : WX) (C : Cf) (X : Cx) (e : Expr) (u : E) : Prop := PE X e (rdE S W (ev C u)) ∧ PT X e (rdT S W (fun σ h => tst (ev C u σ h)))
/-- the names' calls -/
theorem cBi_ok {x : Str} {as : List Expr} {u : E} {p pos : Pos} {f : Expr → Option E} (G : Good S W C X c) (hf : Sub S W C X f) (h : cBi c f x as = some u) (h0 : as ≠ []) : Both S W C X (.Call (.Name x p) as [] pos) u := by
  unfold cBi at h
  split at h
  · rename_i b es eb ea
    cases h
    cases as with
    | nil => exact absurd rfl h0
    | cons a as => exact both G (pe_biS G hf eb ea) fun _ => rfl
  · cases h
theorem cBlt_ok {x : Str} {as : List Expr} {u : E} {p pos : Pos} {f : Expr → Option E} (G : Good S W C X c) (hf : Sub S W C X f) (h : cBlt c f x as = some u) : Both S W C X (.Call (.Name x p) as [] pos) u := by
  unfold cBlt at h
  split at h
  · rename_i hx
    subst hx
    split at h
    · split at h
      · cases h
      · rename_i hs
        rw [Bool.not_eq_true] at hs
        split at h
        · rename_i v ts ev_ et
          split at h
          · rename_i hb
            cases h
            exact both G (pe_instS G hf hb.1 hs ev_ et hb.2) fun _ => rfl
          · cases h
        · cases h
    · cases h
  · split at h
    · split at h
      · rename_i hb
        split at h
        · rename_i es ea
          cases h
          exact both G (pe_lrngS G hf hb.1 hb.2.2.1 hb.2.1 hb.2.2.2.1 ea hb.2.2.2.2) fun _ => rfl
        · cases h
      · exact cBi_ok G hf h (fun z => by cases z)
    · split at h
      · rename_i hb
        split at h
        · rename_i v ev_
          cases h
          exact both G (pe_itemsS G hb.1 hb.2.1 hb.2.2.1 hb.2.2.2.1 hb.2.2.2.2 (hf _ v ev_).1) fun _ => rfl
        · cases h
      · exact cBi_ok G hf h (fun z => by cases z)
    · cases h
    · rename_i h0 _ _
      exact cBi_ok G hf h (fun z => by subst z; simp_all)
theorem cCall_ok {x : Str} {as : List Expr} {kws : List Keyword} {u : E} {p pos : Pos} {f : Expr → Option E} (G : Good S W C X c) (hf : Sub S W C X f) (h : cCall c f x as kws = some u) : Both S W C X (.Call (.Name x p) as kws pos) u := by
  unfold cCall at h
  split at h
  · rename_i hg
    split at h
    · rename_i g ps hl
      split at h
      · split at h
        · rename_i es ea
          split at h
          · rename_i hn
            cases h
            exact both G (pe_callS G hf hg hl ea hn) fun _ => rfl
          · cases h
        · cases h
      · split at h
        · rename_i es ks pm ea ek ep
          split at h
          · rename_i hn
            cases h
            exact both G (pe_callkS G hf hg hl ea ek ep hn.2 hn.1) fun _ => rfl
          · cases h
        · cases h
    · cases h
    · split at h
      · exact cBlt_ok G hf h
      · cases h
  · cases h
theorem cMth_ok {o : Expr} {m : Str} {apos cpos : Pos} {as : List Expr} {u : E} {f : Expr → Option E} (G : Good S W C X c) (hf : Sub S W C X f) (h : cMth f o m apos as cpos = some u) : Both S W C X (.Call (.Attribute o m apos) as [] cpos) u := by
  unfold cMth at h
  split at h
  · rename_i hb
    split at h
    · rename_i mm v es em ev_ ea
      split at h
      · cases h
      · rename_i h0
        cases h
        refine both G (pe_mthS G hf hb.1 hb.2.1 hb.2.2 em ev_ ea fun he => ?_) fun _ => rfl
        by_cases h1 : mm = .pop
        · exact .inl h1
        · by_cases h2 : mm = .clear
          · exact .inr h2
          · exact absurd ⟨he, h1, h2⟩ h0
    · cases h
  · cases h
theorem cSlc_ok {a : Expr} {lo hi st : Option Expr} {p2 pos : Pos} {u : E} {f : Expr → Option E} (G : Good S W C X c) (hf : Sub S W C X f) (h : cSlc f a lo hi st = some u) : Both S W C X (.Subscript a (.Slice lo hi st p2) pos) u := by
  unfold cSlc at h
  split at h
  · split at h
    · rename_i x l m ex el em
      cases h
      exact both G (pe_slcS G hf ex el em) fun _ => rfl
    · cases h
  · split at h
    · rename_i hb
      obtain ⟨h1, h2, h3⟩ := hb
      split at h
      · rename_i x ex
        cases h
        subst h3
        rw [Option.isNone_iff_eq_none] at h1 h2
        subst h1 h2
        exact both G (pe_revS G (hf a x ex).1) fun _ => rfl
      · cases h
    · cases h
  · cases h
theorem cCmp1_ok {a b : Expr} {op : CmpOp} {pos : Pos} {u : E} {f : Expr → Option E} (G : Good S W C X c) (hf : Sub S W C X f) (h : cCmp1 f a op b = some u) : Both S W C X (.Compare a [op] [b] pos) u := by
  unfold cCmp1 at h
  split at h
  · cases h
  · rename_i hs
    have hs : isSet b = false := by simpa using hs
    split at h
    · split at h
      · rename_i hn
        obtain ⟨k, p, rfl⟩ := none_of hn
        split at h
        · rename_i x ex
          cases h
          exact ⟨pe_isNS (hf a x ex).1, pt_isNS (hf a x ex).1⟩
        · cases h
      · cases h
    · split at h
      · rename_i hn
        obtain ⟨k, p, rfl⟩ := none_of hn
        split at h
        · rename_i x ex
          cases h
          exact ⟨pe_notNS (hf a x ex).1, pt_notNS (hf a x ex).1⟩
        · cases h
      · cases h
    · split at h
      · rename_i o x y eo ex ey
        cases h
        exact ⟨pe_cmpS G eo hs (hf a x ex).1 (hf b y ey).1, pt_cmpS G eo hs (hf a x ex).1 (hf b y ey).1⟩
      · cases h
theorem cLc_lc {elt tg iter : Expr} {ifs : List Expr} {scope : Scope} {u : E} {n : Nat} {f f' : Expr → Option E} (G : Good S W C X c) (hf : Sub S W C X f)
    (hf' : ∀ (X' : Cx), Good S WF C X' { c with sc := L2.relS scope c.sc, blk := some scope } → Sub S WF C X' f') (h : cLc c f f' n elt tg iter ifs scope = some u) :
    ∃ it t cs x, u = .comp it ((ownOf c.N scope).map (·.2)) t cs x ∧ LcOk S W C X tg iter ifs elt scope (ownOf c.N scope) it t cs x := by
  unfold cLc at h
  split at h
  · rename_i hb
    split at h
    · rename_i it t cs x ei et ec ex
      split at h
      · rename_i hc
        cases h
        obtain ⟨hi, hs⟩ := cIt_ok G hf ei hc.1
        refine ⟨it, t, cs, x, rfl, hi, hs, by rw [G.hN, G.sc]; exact blkOk_by hb, fun s H Ca cl fp => cTg_ok (G.blk s H scope cl Ca fp) n tg t et, fun s H Ca cl fp => pts_ok (hf' _ (G.blk s H scope cl Ca fp)) ec hc.2.1 hc.2.2.1, fun s H Ca cl fp => (hf' _ (G.blk s H scope cl Ca fp) _ x ex).1, fun i hi => ?_⟩
        exact of_decide_eq_true (List.all_eq_true.mp hc.2.2.2 i hi)
      · cases h
    · cases h
  · cases h
theorem cConst_ok {k : Const} {u : E} {n : Nat} {pos : Pos} (G : Good S W C X c) (h : cConst k = some u) : Both S W C X (.Constant k n pos) u := by
  unfold cConst at h
  split at h
  · cases h; exact both G (pe_cst pe_non fun _ => rfl) fun _ => rfl
  · cases h; exact both G (pe_cst pe_bl fun _ => rfl) fun _ => rfl
  · cases h; exact both G (pe_cst pe_int fun _ => rfl) fun _ => rfl
  · cases h; exact both G (pe_cst pe_str fun _ => rfl) fun _ => rfl
  · cases h
theorem cE_ok : ∀ (n : Nat) {W : WX} {X : Cx} {c : Cc}, Good S W C X c → Sub S W C X (cE c n)
  | 0, _, _, _, _, e, u, h => by cases h
  | n + 1, W, X, c, G, e, u, h => by
    have ih := cE_ok n G
    unfold cE at h
    split at h
    · exact cConst_ok G h
    · split at h
      · rename_i i ei
        cases h
        exact both G (pe_varS G ei) fun _ => rfl
      · cases h
    · split at h
      · rename_i o x y eo ex ey
        cases h
        exact both G (pe_binS G eo (ih _ x ex).1 (ih _ y ey).1) fun _ => rfl
      · cases h
    · split at h
      · rename_i x ex
        cases h
        exact both G (pe_negS (ih _ x ex).1) fun _ => rfl
      · rename_i x ex
        cases h
        exact ⟨pe_notS G (ih _ x ex).1, pt_notS (ih _ x ex).2⟩
      · cases h
    · obtain ⟨h1, h2⟩ := cBool_ok _ G ih _ u h
      exact ⟨h1, h2.pt⟩
    · exact cCmp1_ok G ih h
    · split at h
      · cases h
      · rename_i hs
        obtain ⟨s1, s2⟩ := not_or.mp hs
        rw [Bool.not_eq_true] at s2
        split at h
        · rename_i o o' x y z eo eo' ex ey ez
          cases h
          exact ⟨pe_chnS G eo eo' s2 (ih _ x ex).1 (ih _ y ey).1 (ih _ z ez).1, pt_chnS G eo eo' s2 (ih _ x ex).1 (ih _ y ey).1 (ih _ z ez).1⟩
        · cases h
    · split at h
      · rename_i x y z ex ey ez
        cases h
        exact ⟨pe_ifeS (ih _ x ex).2 (ih _ y ey).1 (ih _ z ez).1, pt_ifeS (ih _ x ex).2 (ih _ y ey).2 (ih _ z ez).2⟩
      · cases h
    · exact cCall_ok G ih h
    · exact cMth_ok G ih h
    · cases h
      exact both G pe_dnewS fun _ => rfl
    · exact cSlc_ok G ih h
    · split at h
      · cases h
      · rename_i hs
        rw [Bool.not_eq_true] at hs
        split at h
        · rename_i x y ex ey
          cases h
          exact both G (pe_idxS G (ih _ x ex).1 (ih _ y ey).1 hs) fun _ => rfl
        · cases h
    · split at h
      · rename_i xs ex
        cases h
        exact both G (pe_lstS (cEs_ok ih _ xs ex)) fun _ => rfl
      · cases h
    · split at h
      · rename_i xs ex
        cases h
        exact both G (pe_tupS (cEs_ok ih _ xs ex)) fun _ => rfl
      · cases h
    · obtain ⟨it, t, cs, x, rfl, L⟩ := cLc_lc G ih (fun X' G' => cE_ok n G') h
      exact both G (pe_lcS G L) fun _ => rfl
    · cases h
end HA

namespace HA
open PySem PySem.Spec PyProof.Rows L2
variable {S : Fx} {W : WX} {C : Cf} {X : Cx} {c : Cc}

/-! ### statements -/
def OutX (S : Fx) (W : WX) (ρ : List Addr) (r : RX) (D : Ends) : Prop := match r with
  | .nx σ h => ∀ ρ' τ' H', Le ρ ρ' → RS S ρ' σ τ' → Mo S ρ' h H' → D.nx τ' H'
  | .rt v h => ∀ ρ' x H', Le ρ ρ' → Mo S ρ' h H' → RV S ρ' v x → D.rt x H'
  | .bk σ h => ∀ ρ' τ' H', Le ρ ρ' → RS S ρ' σ τ' → Mo S ρ' h H' → D.bk τ' H'
  | .ct σ h => ∀ ρ' τ' H', Le ρ ρ' → RS S ρ' σ τ' → Mo S ρ' h H' → D.ct τ' H'
  | .exc cc d σ h => (∃ C, S.cl cc = some C) ∧ (∃ o, h[d]? = some o) ∧ ∀ ρ' τ' H' C a, Le ρ ρ' → RS S ρ' σ τ' → Mo S ρ' h H' → S.cl cc = some C → ρ'[d]? = some a → W (.ref C) (some a) τ' H'
  | .bad => False
def rdX (S : Fx) (W : WX) (f : Sl → Hh → RX) : TS := fun D τ H => ∃ ρ σ h, RS S ρ σ τ ∧ Mo S ρ h H ∧ OutX S W ρ (f σ h) D
theorem OutX.le {ρ ρ' : List Addr} {r : RX} {D : Ends} (o : OutX S W ρ r D) (e : Le ρ ρ') : OutX S W ρ' r D := by
  cases r with
  | nx σ h => exact fun ρ2 τ' H' a b c => o ρ2 τ' H' (e.trans a) b c
  | rt v h => exact fun ρ2 x H' a b c => o ρ2 x H' (e.trans a) b c
  | bk σ h => exact fun ρ2 τ' H' a b c => o ρ2 τ' H' (e.trans a) b c
  | ct σ h => exact fun ρ2 τ' H' a b c => o ρ2 τ' H' (e.trans a) b c
  | exc cc d σ h => exact ⟨o.1, o.2.1, fun ρ2 τ' H' C a l r m => o.2.2 ρ2 τ' H' C a (e.trans l) r m⟩
  | bad => exact o
/-- an expression's part of a statement -/
theorem outx_bind {α β : Type} {R : List Addr → α → β → Prop} {f : Sl → Hh → RE α} {k : α → Hh → RX} {ρ : List Addr} {σ : Sl} {h : Hh} {τ : L2.St} {H : Hp} {D : Ends}
    (rs : RS S ρ σ τ) (mo : Mo S ρ h H) (o : OutX S W ρ (ofE' σ (f σ h) k) D) :
    rd S R W f τ H (fun x H1 => ∃ ρ2 h1 a, Le ρ ρ2 ∧ Mo S ρ2 h1 H1 ∧ R ρ2 a x ∧ OutX S W ρ2 (k a h1) D) := by
  refine ⟨ρ, σ, h, rs, mo, ?_⟩
  cases q : f σ h with
  | ok v h1 =>
    rw [q] at o
    exact fun ρ' x H' le m r => ⟨ρ', h1, v, le, m, r, OutX.le (r := k v h1) o le⟩
  | exc cc d h1 =>
    rw [q] at o
    exact ⟨o.1, o.2.1, fun ρ' H' C a le m e1 e2 => o.2.2 ρ' τ H' C a le (rs.le le) m e1 e2⟩
  | bad =>
    rw [q] at o
    exact o.elim
theorem nxO_ok {ρ : List Addr} {o : Option Sl} {h : Hh} {D : Ends} (q : OutX S W ρ (nxO o h) D) : ∃ σ1, o = some σ1 ∧ ∀ ρ' τ' H', Le ρ ρ' → RS S ρ' σ1 τ' → Mo S ρ' h H' → D.nx τ' H' := by
  cases o with
  | none => exact q.elim
  | some σ1 => exact ⟨σ1, rfl, q⟩
/-! #### stores -/
theorem asgS {u : E} {t : Tg} {τ : L2.St} {H : Hp} {D : Ends} (h : rdX S W (ex C (.asg t u)) D τ H) : tAsg (rdE S W (ev C u)) (gT S t) D τ H := by
  obtain ⟨ρ, σ, h, rs, mo, o⟩ := h
  refine rd.mono (outx_bind (f := ev C u) rs mo o) fun x H1 ⟨ρ2, h1, a, le, m1, ra, o1⟩ => ?_
  obtain ⟨σ1, e1, q⟩ := nxO_ok o1
  exact ⟨ρ2, σ, h1, .one a, σ1, rs.le le, m1, ra, e1, fun τ1 rs1 _ => q ρ2 τ1 H1 .refl rs1 m1⟩
theorem gT_nm {i : Nat} {x : V} {τ : L2.St} {H : Hp} {Q : L2.St → Hp → Prop} (h : gT S (.nm i) x τ H Q) : gName i x τ H Q := by
  obtain ⟨ρ, σ, h, y, σ1, rs, mo, r, e, q⟩ := h
  cases y with
  | one a =>
    cases e
    exact q _ (rs.set i r) .set
  | two a b => cases e
theorem asgN {u : E} {i : Nat} {τ : L2.St} {H : Hp} {D : Ends} (h : rdX S W (ex C (.asg (.nm i) u)) D τ H) : tAsg (rdE S W (ev C u)) (gName i) D τ H :=
  rd.mono (asgS h) fun _ _ q => gT_nm q
theorem sw_lc {elt : Expr} {gs : List Comprehension} {scope : Scope} {pos py : Pos} {y : Str} {l : Nat} {env : Env} : ∃ b : Bool, swapsWith (.ListComp elt gs scope pos) (some (.Name y py)) l env = pure b ∧ (b = true → env.scope.names.lookup y = some .local) := by
  refine ⟨env.blockKind == .function && env.kindOf y == some .local && py.line == pos.line && !(scope.names.any fun (n, k) => n == y && (k == .local || k == .cell)), rfl, fun h => ?_⟩
  simp only [Bool.and_eq_true] at h
  exact eq_of_beq h.1.1.2
theorem ps_nmS {e : Expr} {x : Str} {i : Nat} {u : E} {n : Nat} {p pos : Pos} (G : Good S W C X c) (hi : cTgt c x = some i) (he : cE c (n + 1) e = some u) :
    PS X (.Assign [.Name x p] e pos) (rdX S W (ex C (.asg (.nm i) u))) := by
  obtain ⟨h1, h2, h3⟩ := cTgt_ok G hi
  have hE := (cE_ok (n + 1) G e u he).1
  by_cases hcmp : isComp e = true
  · cases e with
    | ListComp elt gs scope lpos =>
      obtain ⟨b, eb, hloc⟩ := sw_lc (elt := elt) (gs := gs) (scope := scope) (pos := lpos) (py := p) (y := x) (l := pos.line) (env := X.env)
      cases b with
      | false => exact PS.weak (ps_set (cTgt_nd G) h1 h2 hE eb h3) fun D τ H h => asgN h
      | true =>
        have hl := hloc rfl
        unfold cE at he
        split at he
        all_goals first
          | (rename_i z; cases z; done)
          | skip
        · rename_i elt' tg iter ifs scope' pos' z
          cases z
          obtain ⟨it, t, cs, x', rfl, L⟩ := cLc_lc G (cE_ok n G) (fun X' G' => cE_ok n G') he
          refine PS.weak (ps_setLc G.calm (cTgt_nd G) h1 hl eb L.i L.b L.g L.c L.e (no_set L.ns)) fun D τ H h => ?_
          have q := asgN h
          rw [comp_eq] at q
          exact tLcS G.k L.t q
        · cases he
    | SetComp _ _ _ _ =>
      unfold cE at he
      split at he <;> first | (rename_i z; cases z; done) | cases he
    | DictComp _ _ _ _ _ =>
      unfold cE at he
      split at he <;> first | (rename_i z; cases z; done) | cases he
    | _ => cases hcmp
  · have hs : swapsWith e (some (.Name x p)) pos.line X.env = pure false := by
      cases e <;> first | rfl | exact absurd rfl hcmp
    exact PS.weak (ps_set (cTgt_nd G) h1 h2 hE hs h3) fun D τ H h => asgN h
theorem sole_no {t e : Expr} {l : Nat} {env : Env} (h : ∀ x p, t ≠ .Name x p) : swapsWithSole [t] e l env = pure false := by
  show swapsWith e (some t) l env = pure false
  cases e <;> first
    | rfl
    | (cases t <;> first | rfl | exact absurd rfl (h _ _))
theorem swap_none_nt {t e : Expr} {env : Env} (h : ∀ ts k p, t ≠ .Tuple ts k p) (h2 : ∀ ts p, t ≠ .List ts p) : swappedStores [t] e env = pure none := by
  cases t <;> first | rfl | exact absurd rfl (h _ _ _) | exact absurd rfl (h2 _ _)
theorem swap_none_ne {t e : Expr} {env : Env} (h : ∀ ts k p, e ≠ .Tuple ts k p) : swappedStores [t] e env = pure none := by
  unfold swappedStores
  cases t <;> first
    | rfl
    | (cases e <;> first | rfl | exact absurd rfl (h _ _ _))
theorem star_any (vs : List Expr) : (vs.any fun e => match e with | .Starred .. => true | _ => false) = vs.any isStar := by
  induction vs with
  | nil => rfl
  | cons v vs ih =>
    rw [List.any_cons, List.any_cons, ih]
    cases v <;> rfl
theorem swap_eq {ts vs : List Expr} {k k' : Nat} {p p' : Pos} {env : Env} : swappedStores [.Tuple ts k p] (.Tuple vs k' p') env = (
    if (!(ts.length == 2 || ts.length == 3) || vs.length != ts.length || env.blockKind != .function) = true then pure none
    else if vs.any isStar = true then pure none
    else
      let line := (ts.head?.map (·.pos.line)).getD 0
      let names := ts.filterMap (swName (fun x => env.kindOf x) line)
      if (names.length != ts.length || names.eraseDups.length != names.length) = true then pure none
      else if vs.all (foldedForSure 8) = true then pure none
      else if vs.all (constantsAlone 8) = true then (do unsupported "assign.tuple-of-constant-expressions:order-of-the-stores"; pure (some names)) else pure (some names)) := by
  unfold swappedStores
  rw [← star_any]
  simp only [pure_bind, bind_pure_comp]
  split <;> first
    | rfl
    | (split <;> first
        | rfl
        | (simp only []
           split <;> first
             | rfl
             | (split <;> first
                 | rfl
                 | (split <;> rfl))))
theorem noSwap_ok {ts vs : List Expr} {k k' : Nat} {p p' : Pos} (G : Good S W C X c) (h : noSwap c ts vs = true) : swappedStores [.Tuple ts k p] (.Tuple vs k' p') X.env = pure none := by
  rw [swap_eq]
  split
  · rfl
  · rename_i h1
    split
    · rfl
    · rename_i h2
      unfold noSwap at h
      have h1' : ¬ (!(ts.length == 2 || ts.length == 3) || vs.length != ts.length) = true := fun z => h1 (by rw [z]; rfl)
      rw [if_neg h1', if_neg h2] at h
      have ek : ∀ x, X.env.kindOf x = c.sc.names.lookup x := fun x => by rw [← G.sc]; rfl
      simp only [ek]
      simp only [] at h
      split
      · rfl
      · rename_i h3
        rw [if_neg h3] at h
        rw [if_pos h]
theorem parNames_ok (G : Good S W C X c) {line : Nat} : ∀ {ts : List Expr} {xs : List Str}, parNames c line ts = some xs → ∃ ps : List Pos, ts = (xs.zip ps).map (fun q => Expr.Name q.1 q.2) ∧ ps.length = xs.length ∧ (∀ x ∈ xs, X.env.scope.names.lookup x = some .local) ∧
    ts.filterMap (swName (fun x => X.env.kindOf x) line) = xs
  | [], xs, h => by
    cases h
    exact ⟨[], rfl, rfl, (fun x hx => by cases hx), rfl⟩
  | t :: ts, xs, h => by
    unfold parNames at h
    split at h
    · rename_i heq; cases heq
    · rename_i x p r heq
      cases heq
      split at h
      · rename_i hl
        split at h
        · rename_i hp
          split at h
          · rename_i ys ey
            cases h
            obtain ⟨ps, e1, e2, e3, e4⟩ := parNames_ok G ey
            have hx : X.env.scope.names.lookup x = some .local := by rw [G.sc]; exact hl
            refine ⟨p :: ps, by rw [e1]; rfl, by rw [List.length_cons, List.length_cons, e2], fun y hy => ?_, ?_⟩
            · rcases List.mem_cons.mp hy with rfl | hy
              · exact hx
              · exact e3 y hy
            · have hk : X.env.kindOf x = some .local := hx
              have hb : (X.env.kindOf x == some NameKind.local && p.line == line) = true := by rw [hk, hp]; rfl
              rw [List.filterMap_cons]
              have es : swName (fun x => X.env.kindOf x) line (.Name x p) = some x := by
                show (if (X.env.kindOf x == some NameKind.local && p.line == line) = true then some x else none) = some x
                rw [if_pos hb]
              rw [es]
              show x :: _ = x :: ys
              rw [e4]
          · cases h
        · cases h
      · cases h
    · cases h
theorem eraseDups_nodup {α : Type} [BEq α] [LawfulBEq α] : ∀ {l : List α}, l.Nodup → l.eraseDups = l
  | [], _ => rfl
  | x :: l, h => by
    rw [List.eraseDups_cons]
    have h2 := List.nodup_cons.mp h
    have e : l.filter (fun b => !b == x) = l := List.filter_eq_self.mpr fun a ha => by
      have : a ≠ x := fun z => h2.1 (by rw [← z]; exact ha)
      simp [this]
    rw [e, eraseDups_nodup h2.2]
theorem parOk_ok {ts vs : List Expr} {k k' : Nat} {p p' : Pos} {xs : List Str} (G : Good S W C X c) (hf : X.env.scope.kind = .function) (h : parOk c ts vs = some xs) : swappedStores [.Tuple ts k p] (.Tuple vs k' p') X.env = pure (some xs) ∧
    ∃ ps : List Pos, ts = (xs.zip ps).map (fun q => Expr.Name q.1 q.2) ∧ ps.length = xs.length ∧ (∀ x ∈ xs, X.env.scope.names.lookup x = some .local) ∧ xs.Nodup ∧ (xs.length = 2 ∨ xs.length = 3) ∧ vs.length = xs.length ∧ (∀ e ∈ vs, isStar e = false) := by
  unfold parOk at h
  split at h
  · rename_i ys ey
    split at h
    · rename_i hc
      cases h
      obtain ⟨c1, c2, c3, c4, c5, c6⟩ := hc
      obtain ⟨ps, e1, e2, e3, e4⟩ := parNames_ok G ey
      have hl : ts.length = xs.length := by rw [e1, List.length_map, List.length_zip, e2]; omega
      have hst : ∀ e ∈ vs, isStar e = false := fun e he => by
        have := List.all_eq_true.mp c3 e he
        simpa using this
      refine ⟨?_, ps, e1, e2, e3, c4, by rw [← hl]; exact c1, by rw [← hl]; exact c2, hst⟩
      have hb : X.env.blockKind = .function := by unfold Env.blockKind; rw [hf]; rfl
      rw [swap_eq, if_neg, if_neg]
      · simp only [e4]
        rw [if_neg, if_neg, if_neg]
        · rw [c6]; exact Bool.false_ne_true
        · rw [c5]; exact Bool.false_ne_true
        · rw [eraseDups_nodup c4, hl]
          simp
      · intro z
        obtain ⟨e, he, h2⟩ := List.any_eq_true.mp z
        rw [hst e he] at h2
        cases h2
      · rw [hb, c2]
        rcases c1 with c1 | c1 <;> rw [c1] <;> decide
    · cases h
  · cases h
/-! #### several places -/
def endQ (Q : L2.St → Hp → Prop) : Ends := { nx := Q, rt := fun _ _ => False }
def gAs (S : Fx) (W : WX) (C : Cf) (ats : List At) : TGs := fun vs τ H Q => ∃ ρ σ h xs, RS S ρ σ τ ∧ Mo S ρ h H ∧ RVs S ρ xs vs ∧ OutX S W ρ (asgGo (ev C) ats xs σ h) (endQ Q)
theorem pg_subS {o i : Expr} {u v : E} {pos : Pos} (G : Good S W C X c) (ho : PE X o (rdE S W (ev C u))) (hi : PE X i (rdE S W (ev C v))) (hs : isSlice i = false) : PG X (.Subscript o i pos) (gSub (rdE S W (ev C u)) (rdE S W (ev C v)) rSetA) :=
  pg_sub ho hi (set_all (by have := G.units; omega)) fun w => by cases i <;> first | rfl | cases hs
/-- the store itself -/
theorem subS {u v : E} {ρ : List Addr} {σ : Sl} {h : Hh} {τ : L2.St} {H : Hp} {a : Va} {x : V} {Q : L2.St → Hp → Prop} {D : Ends} {k : Sl → Hh → RX} (rs : RS S ρ σ τ) (mo : Mo S ρ h H) (r : RV S ρ a x)
    (o : OutX S W ρ (ofE' σ (ev C u σ h) fun ov h1 => ofE' σ (ev C v σ h1) fun iv h2 => match setV ov iv a h2 with
      | some h3 => k σ h3
      | none => .bad) D) (q : ∀ ρ' h' H', Le ρ ρ' → Mo S ρ' h' H' → OutX S W ρ' (k σ h') D → Q τ H') : gSub (rdE S W (ev C u)) (rdE S W (ev C v)) rSetA x τ H Q := by
  refine rd.mono (outx_bind (f := ev C u) rs mo o) fun y H1 ⟨ρ2, h1, b, le, m1, rb, o1⟩ => ?_
  refine rd.mono (outx_bind (f := ev C v) (rs.le le) m1 o1) fun z H2 ⟨ρ3, h2, d, le2, m2, rd_, o2⟩ => ?_
  split at o2
  · rename_i h3 e3
    exact setV_ok m2 (rb.le le2) rd_ (r.le (le.trans le2)) e3 fun H' m3 => q ρ3 h3 H' (le.trans le2) m3 o2
  · exact o2.elim
theorem pgs_atS (G : Good S W C X c) {n : Nat} : ∀ {ts : List Expr} {ats : List At}, cAts (fun t => cAt c n (cE c n) t) ts = some ats → PGs X ts (gAs S W C ats) ∧ (assignEach ts X.env).length = ts.length ∧ (assignEach ts X.env).findIdx? (·.1) = none ∧ ats.length = ts.length
  | [], ats, e => by
    cases e
    refine ⟨PGs.weak pgs_nil fun vs τ H Q ⟨ρ, σ, h, xs, rs, mo, r, o⟩ => ?_, rfl, rfl, rfl⟩
    cases xs with
    | nil =>
      cases r
      exact ⟨rfl, o ρ τ H .refl rs mo⟩
    | cons x xs => exact o.elim
  | t :: ts, ats, e => by
    unfold cAts at e
    split at e
    · cases e
    · rename_i hs
      rw [Bool.not_eq_true] at hs
      split at e
      · rename_i a as ea eas
        cases e
        obtain ⟨h1, h2, h3, h4⟩ := pgs_atS G eas
        refine ⟨?_, by rw [asg_plain hs, List.length_cons, List.length_cons, h2], by rw [asg_plain hs, List.findIdx?_cons]; simp only [Bool.false_eq_true, if_false, h3, Option.map_none], by rw [List.length_cons, List.length_cons, h4]⟩
        unfold cAt at ea
        split at ea
        · split at ea
          · cases ea
          · rename_i hsl
            rw [Bool.not_eq_true] at hsl
            split at ea
            · rename_i x y ex ey
              cases ea
              refine PGs.weak (pgs_cons (pg_subS G (cE_ok n G _ x ex).1 (cE_ok n G _ y ey).1 hsl) h1 (by rw [asg_plain hs]; rfl)) fun vs τ H Q ⟨ρ, σ, h, xs, rs, mo, r, o⟩ => ?_
              cases xs with
              | nil => exact o.elim
              | cons z xs =>
                cases r with
                | cons r rt =>
                  refine ⟨_, _, rfl, subS (k := fun σ h => asgGo (ev C) as xs σ h) rs mo r o fun ρ' h' H' le m o' => ⟨ρ', σ, h', xs, rs.le le, m, RVs.le le rt, o'⟩⟩
            · cases ea
        · split at ea
          · rename_i t' et
            cases ea
            refine PGs.weak (pgs_cons (cTg_ok G n _ t' et) h1 (by rw [asg_plain hs]; rfl)) fun vs τ H Q ⟨ρ, σ, h, xs, rs, mo, r, o⟩ => ?_
            cases xs with
            | nil => exact o.elim
            | cons z xs =>
              cases r with
              | cons r rt =>
                have o : OutX S W ρ (match tgY h t' (.one z) σ with
                  | some σ1 => asgGo (ev C) as xs σ1 h
                  | none => .bad) (endQ Q) := o
                split at o
                · rename_i σ1 e1
                  exact ⟨_, _, rfl, ρ, σ, h, .one z, σ1, rs, mo, r, e1, fun τ1 rs1 _ => ⟨ρ, σ1, h, xs, rs1, mo, rt, o⟩⟩
                · exact o.elim
          · cases ea
      · cases e
/-- no loop is left, nothing returned -/
inductive PlainX : RX → Prop where
  | nx (σ : Sl) (h : Hh) : PlainX (.nx σ h)
  | exc (cc d : Nat) (σ : Sl) (h : Hh) : PlainX (.exc cc d σ h)
  | bad : PlainX .bad
theorem PlainX.end {r : RX} (p : PlainX r) {ρ : List Addr} {D : Ends} (o : OutX S W ρ r D) : OutX S W ρ r (endQ D.nx) := by
  cases p <;> exact o
theorem PlainX.of {α : Type} {σ : Sl} {r : RE α} {k : α → Hh → RX} (h : ∀ a h, PlainX (k a h)) : PlainX (ofE' σ r k) := by
  cases r
  · exact h _ _
  · exact .exc _ _ _ _
  · exact .bad
theorem asgGo_plain : ∀ (ats : List At) (xs : List Va) (σ : Sl) (h : Hh), PlainX (asgGo (ev C) ats xs σ h)
  | [], [], σ, h => .nx _ _
  | [], _ :: _, _, _ => .bad
  | .tg t :: r, [], _, _ => .bad
  | .sub _ _ :: _, [], _, _ => .bad
  | .tg t :: r, x :: xs, σ, h => by
    show PlainX (match tgY h t (.one x) σ with
      | some σ1 => asgGo (ev C) r xs σ1 h
      | none => .bad)
    split
    · exact asgGo_plain r xs _ h
    · exact .bad
  | .sub o i :: r, x :: xs, σ, h => PlainX.of fun a h1 => PlainX.of fun b h2 => by
    split
    · exact asgGo_plain r xs _ _
    · exact .bad
theorem ps_asgsS {ts vs : List Expr} {ats : List At} {u : E} {n k k' : Nat} {p p' pos : Pos} (G : Good S W C X c) (hw : noSwap c ts vs = true) (ht : cAts (fun t => cAt c n (cE c n) t) ts = some ats) (he : cE c n (.Tuple vs k' p') = some u) :
    PS X (.Assign [.Tuple ts k p] (.Tuple vs k' p') pos) (rdX S W (ex C (.asgs ats u))) := by
  obtain ⟨h1, h2, h3, h4⟩ := pgs_atS G ht
  refine PS.weak (ps_asg (cE_ok n G _ u he).1 (pg_tup (n := ts.length) G.calm h1 h2 h3) (sole_no fun x p z => by cases z) (noSwap_ok G hw) (by rw [asg_plain rfl]; rfl)) fun D τ H ⟨ρ, σ, h, rs, mo, o⟩ => ?_
  refine rd.mono (outx_bind (f := ev C u) rs mo o) fun x H1 ⟨ρ2, h5, a, le, m1, ra, o1⟩ => ?_
  split at o1
  · rename_i xs ex
    obtain ⟨q, ws, rfl, g, rv⟩ := tupOf_rel m1 ra ex
    rw [G.k]
    split at o1
    · rename_i hl
      exact ⟨q, ws, rfl, .of g, by rw [← Paired.length rv, hl, h4], ρ2, σ, h5, xs, rs.le le, m1, rv, (asgGo_plain ats xs σ h5).end o1⟩
    · exact o1.elim
  · exact o1.elim
/-! #### the others -/
theorem cAs_len {f : Expr → Option E} {es : List Expr} {u : Es} (h : cAs f es = some u) {σ : Sl} {h0 h1 : Hh} {vs : List Va} (q : evs C u σ h0 = .ok vs h1) : vs.length = es.length := evs_len es u h σ h0 vs h1 q
theorem slots_ok (G : Good S W C X c) : ∀ {xs : List Str} {is : List Nat}, slotsOf c.N xs = some is → is.length = xs.length ∧ ∀ (j : Nat) (x : Str), xs[j]? = some x → ∃ i, is[j]? = some i ∧ X.N[i]? = some x
  | [], is, h => by cases h; exact ⟨rfl, fun j x e => by simp at e⟩
  | x :: xs, is, h => by
    unfold slotsOf mapO at h
    split at h
    · rename_i i ei
      split at h
      · rename_i is' eis
        cases h
        obtain ⟨h1, h2⟩ := slots_ok G (is := is') eis
        refine ⟨by rw [List.length_cons, List.length_cons, h1], fun j y e => ?_⟩
        cases j with
        | zero => cases e; exact ⟨i, rfl, G.slot ei⟩
        | succ j => exact h2 j y e
      · cases h
    · cases h
theorem slot_ne {N : List Str} {i j : Nat} {x y : Str} (hi : N[i]? = some x) (hj : N[j]? = some y) (h : x ≠ y) : i ≠ j := fun z => h (by rw [z, hj] at hi; exact (Option.some.inj hi).symm)
theorem ps_parS {ts vs : List Expr} {xs : List Str} {is : List Nat} {es : Es} {n k k' : Nat} {p p' pos : Pos} (G : Good S W C X c) (hf : X.env.scope.kind = .function) (h : parOk c ts vs = some xs) (hi : slotsOf c.N xs = some is) (he : cAs (cE c n) vs = some es) :
    PS X (.Assign [.Tuple ts k p] (.Tuple vs k' p') pos) (rdX S W (ex C (.par is es))) := by
  obtain ⟨hw, ps, e1, e2, e3, e4, e5, e6, e7⟩ := parOk_ok (k := k) (k' := k') (p := p) (p' := p') G hf h
  obtain ⟨i1, i2⟩ := slots_ok G hi
  obtain ⟨hs, hA⟩ := cAs_ok (cE_ok n G) vs es he
  rcases e5 with e5 | e5
  · match xs, e5, ps, e2, vs, e6, is, i1 with
    | [x, y], _, [px, py], _, [a, b], _, [i, j], _ =>
      have e1 : ts = [.Name x px, .Name y py] := e1
      subst e1
      obtain ⟨i', z1, hi'⟩ := i2 0 x rfl
      cases z1
      obtain ⟨j', z2, hj'⟩ := i2 1 y rfl
      cases z2
      have hxy : x ≠ y := by simpa using e4
      refine PS.weak (ps_par G.calm (cTgt_nd G) hi' hj' (slot_ne hi' hj' hxy) (e3 x (by simp)) (e3 y (by simp)) hA hw) fun D τ H ⟨ρ, σ, h, rs, mo, o⟩ => ?_
      refine rd.mono (outx_bind (f := evs C es) rs mo o) fun us H1 ⟨ρ2, h1, as, le, m1, ra, o1⟩ => ?_
      obtain ⟨σ1, q1, q⟩ := nxO_ok o1
      match as, q1 with
      | [a1, a2], q1 =>
        obtain ⟨u1, u2, rfl, r1, r2⟩ := two_rel ra
        cases q1
        exact ⟨u1, u2, rfl, q ρ2 _ H1 .refl (((rs.le le).set i r1).set j r2) m1⟩
  · match xs, e5, ps, e2, vs, e6, is, i1 with
    | [x, y, z], _, [px, py, pz], _, [a, b, d], _, [i, j, l], _ =>
      have e1 : ts = [.Name x px, .Name y py, .Name z pz] := e1
      subst e1
      obtain ⟨i', z1, hi'⟩ := i2 0 x rfl
      cases z1
      obtain ⟨j', z2, hj'⟩ := i2 1 y rfl
      cases z2
      obtain ⟨l', z3, hl'⟩ := i2 2 z rfl
      cases z3
      have hnd : x ≠ y ∧ x ≠ z ∧ y ≠ z := by
        have h := e4
        simp only [List.nodup_cons, List.mem_cons, List.not_mem_nil, or_false, not_or] at h
        exact ⟨h.1.1, h.1.2, h.2.1⟩
      refine PS.weak (ps_par3 G.calm (cTgt_nd G) hi' hj' hl' (slot_ne hi' hj' hnd.1) (slot_ne hi' hl' hnd.2.1) (slot_ne hj' hl' hnd.2.2) (e3 x (by simp)) (e3 y (by simp)) (e3 z (by simp)) hA hw) fun D τ H ⟨ρ, σ, h, rs, mo, o⟩ => ?_
      refine rd.mono (outx_bind (f := evs C es) rs mo o) fun us H1 ⟨ρ2, h1, as, le, m1, ra, o1⟩ => ?_
      obtain ⟨σ1, q1, q⟩ := nxO_ok o1
      match as, q1 with
      | [a1, a2, a3], q1 =>
        cases ra with
        | cons r1 rt =>
          obtain ⟨u2, u3, rfl, r2, r3⟩ := two_rel rt
          cases q1
          exact ⟨_, u2, u3, rfl, q ρ2 _ H1 .refl ((((rs.le le).set i r1).set j r2).set l r3) m1⟩
theorem ps_tupS {ts : List Expr} {e : Expr} {t : Tg} {u : E} {n k : Nat} {p pos : Pos} (G : Good S W C X c) (hne : ∀ ts k p, e ≠ .Tuple ts k p) (ht : cTg c n (.Tuple ts k p) = some t) (he : cE c n e = some u) : PS X (.Assign [.Tuple ts k p] e pos) (rdX S W (ex C (.asg t u))) :=
  PS.weak (ps_asg (cE_ok n G _ u he).1 (cTg_ok G n _ t ht) (sole_no fun x p z => by cases z) (swap_none_ne hne) (by rw [asg_plain rfl]; rfl)) fun D τ H h => asgS h
theorem ps_setS {o i e : Expr} {x y v : E} {n : Nat} {p pos : Pos} (G : Good S W C X c) (hs : isSlice i = false) (ho : cE c n o = some x) (hi : cE c n i = some y) (he : cE c n e = some v) : PS X (.Assign [.Subscript o i p] e pos) (rdX S W (ex C (.set x y v))) := by
  refine PS.weak (ps_asg (cE_ok n G _ v he).1 (pg_subS G (cE_ok n G _ x ho).1 (cE_ok n G _ y hi).1 hs) (sole_no fun x p z => by cases z) (swap_none_nt (fun _ _ _ z => by cases z) fun _ _ z => by cases z) (by rw [asg_plain rfl]; rfl)) fun D τ H ⟨ρ, σ, h, rs, mo, o⟩ => ?_
  refine rd.mono (outx_bind (f := ev C v) rs mo o) fun a H1 ⟨ρ2, h1, b, le, m1, ra, o1⟩ => ?_
  exact subS (k := fun σ h => .nx σ h) (rs.le le) m1 ra o1 fun ρ' h' H' le' m' o' => o' ρ' τ H' .refl ((rs.le le).le le') m'
theorem ps_expS {e : Expr} {u : E} {n : Nat} {pos : Pos} (G : Good S W C X c) (hc : isComp e = false) (he : cE c n e = some u) : PS X (.Expr e pos) (rdX S W (ex C (.exp u))) := by
  refine PS.weak (ps_expr (cE_ok n G _ u he).1 (by cases e <;> first | rfl | cases hc)) fun D τ H ⟨ρ, σ, h, rs, mo, o⟩ => ?_
  refine rd.mono (outx_bind (f := ev C u) rs mo o) fun a H1 ⟨ρ2, h1, b, le, m1, ra, o1⟩ => ?_
  exact o1 ρ2 τ H1 .refl (rs.le le) m1
theorem ps_retS {e : Expr} {u : E} {n : Nat} {pos : Pos} (G : Good S W C X c) (he : cE c n e = some u) : PS X (.Return (some e) pos) (rdX S W (ex C (.ret u))) := by
  refine PS.weak (ps_ret (cE_ok n G _ u he).1) fun D τ H ⟨ρ, σ, h, rs, mo, o⟩ => ?_
  refine rd.mono (outx_bind (f := ev C u) rs mo o) fun a H1 ⟨ρ2, h1, b, le, m1, ra, o1⟩ => ?_
  exact o1 ρ2 a H1 .refl m1 ra
theorem ps_nextS {st : Stmt} (h : PS X st tNext) : PS X st (rdX S W (ex C .pass)) := PS.weak h fun D τ H ⟨ρ, σ, h, rs, mo, o⟩ => o ρ τ H .refl rs mo
end HA

namespace HA
open PySem PySem.Spec PyProof.Rows L2
variable {S : Fx} {W : WX} {C : Cf} {X : Cx} {c : Cc}

/-! ### suites, tests, loops -/
theorem outx_seq {ρ : List Addr} {r : RX} {k : Sl → Hh → RX} {D : Ends} (o : OutX S W ρ (r.seq k) D) : OutX S W ρ r { D with nx := rdX S W k D } := by
  cases r with
  | nx σ h => exact fun ρ' τ' H' le rs mo => ⟨ρ', σ, h, rs, mo, OutX.le (r := k σ h) o le⟩
  | rt v h => exact o
  | bk σ h => exact o
  | ct σ h => exact o
  | exc cc d σ h => exact o
  | bad => exact o
theorem pss_ok {f : Stmt → Option Sm} (hf : ∀ st s, f st = some s → PS X st (rdX S W (ex C s))) : ∀ (sts : List Stmt) (ss : Ss), cS.cSs f sts = some ss → PSs X sts (rdX S W (exs C ss))
  | [], ss, h => by
    cases h
    exact PSs.weak pss_nil fun D τ H ⟨ρ, σ, h, rs, mo, o⟩ => o ρ τ H .refl rs mo
  | st :: sts, ss, h => by
    unfold cS.cSs at h
    split at h
    · rename_i s ss' e1 e2
      cases h
      refine PSs.weak (pss_cons (hf st s e1) (pss_ok hf sts ss' e2)) fun D τ H ⟨ρ, σ, h, rs, mo, o⟩ => ?_
      exact ⟨ρ, σ, h, rs, mo, outx_seq (k := exs C ss') o⟩
    · cases h
theorem ps_ifS {t : Expr} {a b : List Stmt} {x : E} {y z : Ss} {pos : Pos} (ht : PT X t (rdT S W (fun σ h => tst (ev C x σ h)))) (ha : PSs X a (rdX S W (exs C y))) (hb : PSs X b (rdX S W (exs C z))) : PS X (.If t a b pos) (rdX S W (ex C (.ife x y z))) := by
  refine PS.weak (ps_if ht ha hb) fun D τ H ⟨ρ, σ, h, rs, mo, o⟩ => ?_
  refine rd.mono (outx_bind (f := fun σ h => tst (ev C x σ h)) rs mo o) fun k H1 ⟨ρ2, h1, k', le, m1, e, o1⟩ => ?_
  subst e
  cases k' with
  | true => rw [if_pos rfl] at o1 ⊢; exact ⟨ρ2, σ, h1, rs.le le, m1, o1⟩
  | false => rw [if_neg (by decide)] at o1 ⊢; exact ⟨ρ2, σ, h1, rs.le le, m1, o1⟩
/-- a turn -/
theorem outx_turn {ρ : List Addr} {r : RX} {go : Sl → Hh → RX} {D : Ends} (o : OutX S W ρ (turn r go) D) : OutX S W ρ r { D with nx := fun τ H => ∃ ρ' σ h, Le ρ ρ' ∧ RS S ρ' σ τ ∧ Mo S ρ' h H ∧ OutX S W ρ' (go σ h) D, ct := fun τ H => ∃ ρ' σ h, Le ρ ρ' ∧ RS S ρ' σ τ ∧ Mo S ρ' h H ∧ OutX S W ρ' (go σ h) D, bk := D.nx } := by
  cases r with
  | nx σ h => exact fun ρ' τ' H' le rs mo => ⟨ρ', σ, h, le, rs, mo, OutX.le (r := go σ h) o le⟩
  | rt v h => exact o
  | bk σ h => exact o
  | ct σ h => exact fun ρ' τ' H' le rs mo => ⟨ρ', σ, h, le, rs, mo, OutX.le (r := go σ h) o le⟩
  | exc cc d σ h => exact o
  | bad => exact o
theorem ps_forS {tg iter : Expr} {b : List Stmt} {it : It} {t : Tg} {body : Ss} {n : Nat} {pos : Pos} (G : Good S W C X c) (hp : PassesOwn (model X.prog X.w) X.A X.env X.xe) (hi : PI X tg iter (iS S W (evIt C it))) (hs : isSet iter = false) (hg : PG X tg (gT S t)) (hb : PSs X b (rdX S W (exs C body))) :
    PS X (.For tg iter b [] pos) (rdX S W (ex C (.for_ it t body))) := by
  refine PS.weak (ps_for hp G.calm hi hg hb (no_set hs)) fun D τ H ⟨ρ, σ, h, rs, mo, o⟩ => ?_
  refine rd.mono (outx_bind (f := evIt C it) rs mo o) fun J H1 ⟨ρ2, h1, w, le, m1, wk, o1⟩ => ?_
  refine ⟨fun i m τ H => ∃ ρ3 σ3 h3, Le ρ2 ρ3 ∧ RS S ρ3 σ3 τ ∧ Mo S ρ3 h3 H ∧ i + m = w.ys.length ∧ OutX S W ρ3 (forGo w.src t (exs C body) (w.ys.drop i) σ3 h3) D, ⟨w.ys.length, ρ2, σ, h1, .refl, rs.le le, m1, by omega, o1⟩, ?_⟩
  rintro i m τ3 H3 ⟨ρ3, σ3, h3, le3, rs3, m3, him, o3⟩
  cases hy : w.ys[i]? with
  | none =>
    have hi : w.ys.length ≤ i := List.getElem?_eq_none_iff.mp hy
    rw [List.drop_of_length_le hi] at o3
    have o3 : OutX S W ρ3 (if live w.src h3 = true then .nx σ3 h3 else .bad) D := o3
    split at o3
    · rename_i lv
      exact .inl ⟨wk.stop i ρ3 h3 H3 le3 m3 lv (by omega), o3 ρ3 τ3 H3 .refl rs3 m3⟩
    · exact o3.elim
  | some y =>
    have hi : i < w.ys.length := (List.getElem?_eq_some_iff.mp hy).1
    rw [List.drop_eq_getElem_cons hi, show w.ys[i] = y from (List.getElem?_eq_some_iff.mp hy).2] at o3
    have o3 : OutX S W ρ3 (if live w.src h3 = true then match tgY h3 t y σ3 with
      | some σ1 => turn (exs C body σ1 h3) (forGo w.src t (exs C body) (w.ys.drop (i + 1)))
      | none => .bad
    else .bad) D := o3
    split at o3
    · rename_i lv
      obtain ⟨hgo, hyl⟩ := wk.go i y ρ3 h3 H3 le3 m3 lv hy
      split at o3
      · rename_i σ1 e1
        refine .inr ⟨hgo, fun τ H => ∃ ρ' σ' h', Le ρ3 ρ' ∧ RS S ρ' σ' τ ∧ Mo S ρ' h' H ∧ OutX S W ρ' (forGo w.src t (exs C body) (w.ys.drop (i + 1)) σ' h') D, ?_, fun x H4 q => ?_⟩
        rotate_left
        · obtain ⟨m4, yr⟩ := hyl x H4 q
          exact ⟨ρ3, σ3, h3, y, σ1, rs3, m4, yr, e1, fun τ1 rs1 _ => ⟨ρ3, σ1, h3, rs1, m4, outx_turn o3⟩⟩
        · rintro τ4 H4 ⟨ρ4, σ4, h4, le4, rs4, m4, o4⟩
          exact ⟨m - 1, by omega, ρ4, σ4, h4, le3.trans le4, rs4, m4, by omega, o4⟩
      · exact o3.elim
    · exact o3.elim
theorem ps_whlS {t : Expr} {b : List Stmt} {x : E} {body : Ss} {pos : Pos} (hp : PassesOwn (model X.prog X.w) X.A X.env X.xe) (ht : PT X t (rdT S W (fun σ h => tst (ev C x σ h)))) (hb : PSs X b (rdX S W (exs C body))) :
    PS X (.While t b [] pos) (rdX S W (ex C (.whl x body))) := by
  refine PS.weak (ps_while hp ht hb) fun D τ H ⟨ρ, σ, h, rs, mo, o⟩ => ?_
  refine ⟨fun m τ H => ∃ ρ3 σ3 h3, RS S ρ3 σ3 τ ∧ Mo S ρ3 h3 H ∧ OutX S W ρ3 (whlGo (fun σ h => tst (ev C x σ h)) (exs C body) m σ3 h3) D, ⟨WN, ρ, σ, h, rs, mo, o⟩, ?_⟩
  rintro m τ3 H3 ⟨ρ3, σ3, h3, rs3, m3, o3⟩
  cases m with
  | zero => exact o3.elim
  | succ m =>
    refine rd.mono (outx_bind (f := fun σ h => tst (ev C x σ h)) rs3 m3 o3) fun k H1 ⟨ρ2, h1, k', le, m1, e, o1⟩ => ?_
    subst e
    cases k' with
    | true =>
      rw [if_pos rfl] at o1 ⊢
      refine ⟨fun τ H => ∃ ρ' σ' h', Le ρ2 ρ' ∧ RS S ρ' σ' τ ∧ Mo S ρ' h' H ∧ OutX S W ρ' (whlGo (fun σ h => tst (ev C x σ h)) (exs C body) m σ' h') D, ?_, ρ2, σ3, h1, rs3.le le, m1, outx_turn o1⟩
      rintro τ4 H4 ⟨ρ4, σ4, h4, le4, rs4, m4, o4⟩
      exact ⟨m, Nat.lt_succ_self m, ρ4, σ4, h4, rs4, m4, o4⟩
    | false =>
      rw [if_neg (by decide)] at o1 ⊢
      exact o1 ρ2 τ3 H1 .refl (rs3.le le) m1
theorem cS_ok (G : Good S W C X c) (hp : PassesOwn (model X.prog X.w) X.A X.env X.xe) (hf : X.env.scope.kind = .function) : ∀ (n : Nat) (st : Stmt) (s : Sm), cS c n st = some s → PS X st (rdX S W (ex C s))
  | 0, st, s, h => by cases h
  | n + 1, st, s, h => by
    have ih := cS_ok G hp hf n
    unfold cS at h
    split at h
    · cases h; exact ps_nextS ps_doc
    · split at h
      · cases h
      · rename_i hc
        rw [Bool.not_eq_true] at hc
        split at h
        · rename_i x ex_
          cases h
          exact ps_expS G hc ex_
        · cases h
    · cases h; exact ps_nextS ps_pass
    · cases h; exact PS.weak ps_break fun D τ H ⟨ρ, σ, h, rs, mo, o⟩ => o ρ τ H .refl rs mo
    · cases h; exact PS.weak ps_continue fun D τ H ⟨ρ, σ, h, rs, mo, o⟩ => o ρ τ H .refl rs mo
    · split at h
      · rename_i x ex_
        cases h
        exact ps_retS G ex_
      · cases h
    · cases h
      exact PS.weak ps_retN fun D τ H ⟨ρ, σ, h, rs, mo, o⟩ => o ρ .non H .refl mo rfl
    · cases h
      exact PS.weak ps_never fun D τ H ⟨ρ, σ, h, rs, mo, o⟩ => o
    · split at h
      · rename_i i v ei ev_
        cases n with
        | zero => cases ev_
        | succ n =>
          cases h
          exact ps_nmS G ei ev_
      · cases h
    · split at h
      · split at h
        · rename_i hw
          split at h
          · rename_i t v et ev_
            cases h
            exact ps_asgsS G hw et ev_
          · cases h
        · split at h
          · rename_i xs ex_
            split at h
            · rename_i is es ei ee
              cases h
              exact ps_parS G hf ex_ ei ee
            · cases h
          · cases h
      all_goals first
        | (split at h
           · rename_i t v et ev_
             cases h
             exact ps_tupS G (fun _ _ _ z => by cases z) et ev_
           · cases h)
        | cases h
    · split at h
      · cases h
      · rename_i hs
        rw [Bool.not_eq_true] at hs
        split at h
        · rename_i x y v ex_ ey ev_
          cases h
          exact ps_setS G hs ex_ ey ev_
        · cases h
    · split at h
      · rename_i x y z ex_ ey ez
        cases h
        exact ps_ifS (cE_ok n G _ x ex_).2 (pss_ok ih _ y ey) (pss_ok ih _ z ez)
      · cases h
    · split at h
      · rename_i it t body ei et eb
        split at h
        · rename_i hpr
          cases h
          obtain ⟨hi, hs⟩ := cIt_ok G (cE_ok n G) ei hpr
          exact ps_forS (n := n) G hp hi hs (cTg_ok G n _ t et) (pss_ok ih _ body eb)
        · cases h
      · cases h
    · split at h
      · rename_i x y ex_ ey
        cases h
        exact ps_whlS hp (cE_ok n G _ x ex_).2 (pss_ok ih _ y ey)
      · cases h
    · cases h
end HA

namespace HA
open PySem PySem.Spec PyProof.Rows L2

/-! ### defs -/
section
variable {P : Program} {w : World} {K : PySem.W.Frag} {mg : Str → Option Value} {base : Heap} {x qual : Str} {params : Arguments} {body : List Stmt} {scope : Scope} {dvs : List V} {kws : List (Str × V)} {f : Addr} {fd : FuncData}
/-- a def by its body, where no repr is under way -/
theorem fnG_of {CX : CXT} {N ps : List Str} {k : Nat} {sp : Sp} (F : FunD K x qual params body scope dvs kws f fd) (S : FnScope N ps scope) (len : ∀ vs H Q E, sp vs H Q E → vs.length = ps.length)
    (hbody : ∀ (cdv : Value) (A : Around) (outer : List Env) (s : Shared) (H : Hp) (vs : List V) (Q : VK) (E : XK), Room k (A.deeper (envOfC qual scope s.heap.objs.size f cdv)) → A.guards = some [] → (cxOf CX P w K mg base N qual scope f cdv A outer s H E).Ok → sp vs H Q E →
      ∃ t, PSs (cxOf CX P w K mg base N qual scope f cdv A outer s H E) body t ∧ t { nx := fun _ H' => Q .non H', rt := Q } (start N vs) H) : FnG P w K mg base CX (k + 1) f fd ps sp := by
  obtain ⟨oc, od, dV, kV, doc, pm, an, cdv, ct, osl, rfl, lk, hcd, _, _⟩ := F.ex
  refine ⟨len, fun A outer s H args us vs Q E hr hgd e0 hb r hsp => ?_⟩
  have frag : K.In s.heap := e0.mod.kin.keeps fun b o e => (e0.bs b o e).1
  have kinds : ∀ y ∈ ps.zip us, scope.names.lookup y.1 = some .local ∨ (scope.names.lookup y.1 = some .cell ∧ ((cellsFrom (s.heap.objs.size + 1) scope.names []).lookup y.1).isSome = true) := by
    rintro ⟨n, v⟩ hy
    exact (S.par n (List.of_mem_zip hy).1).imp id fun q => ⟨q, PySem.W.cellsFrom_some _ _ _ (.inl q)⟩
  refine codeAny_call_function hr.depth (frag _ _ lk) rfl S.co S.gen rfl (PySem.W.codeRec_of frag hcd) (hb _ _ _ _ ?_)
  refine wpAny_newFunctionEnv_cells S.kind kinds fun env he s1 x => ?_
  subst he
  have I : Inv (cxOf CX P w K mg base N qual scope f cdv A outer s H E) [] (start N vs) H s1 := inv_start S hr.hd e0 (len _ _ _ _ hsp) r x
  refine ⟨(e0.mod.nolimit.keeps fun b o e => (e0.bs b o e).1).keeps x.toInCall.keep, codeAny_func ?_⟩
  obtain ⟨t, ht, hq⟩ := hbody cdv A outer s H vs Q E (hr.deeper _) hgd I.ok hsp
  refine wpAny_mono (ht.run [] s1 (start N vs) H _ I hq) (fun fl s' hs => ?_) fun e s' hs => hs
  cases fl with
  | ret u =>
    obtain ⟨v, σ', H', J, rv, q⟩ := hs
    exact ⟨v, H', J.os, J.bare, J.base, J.hok, rv, q⟩
  | next =>
    obtain ⟨σ', H', J, q⟩ := hs
    exact ⟨.non, H', J.os, J.bare, J.base, J.hok, rfl, q⟩
  | brk =>
    obtain ⟨_, _, _, q⟩ := hs
    exact q.elim
  | cont =>
    obtain ⟨_, _, _, q⟩ := hs
    exact q.elim
end

/-! ### a module of defs -/
structure Ent where
  x : Str
  st : Stmt
  ps : List Str
  N : List Str
abbrev FU : Nat := 60
structure ModOk (K : PySem.W.Frag) (mg : Str → Option Value) (G : List (Str × Gd)) (KW : List (Str × Nat × List Str)) (es : List Ent) (T : List Df) : Prop where
  fns : ∀ (g : Nat) (e : Ent), es[g]? = some e → ∃ f fd, mg e.x = some (.ref f) ∧ FunD K e.x e.x (defArgs e.st) (defBody e.st) (defScope e.st) [] [] f fd ∧ Binds K fd e.ps [] ∧ ∀ (n : Nat) (ks : List Str), (e.x, n, ks) ∈ KW → KwOk K fd e.ps n ks
  sc : ∀ (g : Nat) (e : Ent), es[g]? = some e → FnScope e.N e.ps (defScope e.st)
  tb : ∀ (g : Nat) (e : Ent), es[g]? = some e → ∃ b, T[g]? = some ⟨e.N.length, e.ps.length, b⟩ ∧ cS.cSs (cS ⟨e.N, defScope e.st, none, G, KW⟩ FU) (defBody e.st) = some b
  tl : T.length = es.length
  gl : ∀ (x : Str) (g : Nat) (ps : List Str), G.lookup x = some (.df g ps) → ∃ e, es[g]? = some e ∧ e.x = x ∧ e.ps = ps
  blt : ∀ x ∈ usedB, G.lookup x = none → mg x = none
theorem rs_start {S : Fx} {ρ : List Addr} {as : List Va} {vs : List V} (r : RVs S ρ as vs) (n : Nat) : RS S ρ (as.map some ++ List.replicate (n - as.length) none) (vs.map some ++ List.replicate (n - vs.length) none) := by
  have hl := Paired.length r
  refine ⟨by simp [hl], fun i x e => ?_⟩
  rw [List.getElem?_append] at e
  rw [List.getElem?_append]
  simp only [List.length_map] at e ⊢
  split at e
  · rename_i hi
    rw [List.getElem?_map] at e
    cases q : as[i]? with
    | none => rw [q] at e; cases e
    | some a =>
      rw [q] at e
      cases e
      obtain ⟨v, h1, h2⟩ := Paired.get r q
      exact ⟨v, by rw [if_pos (by omega), List.getElem?_map, h1]; rfl, h2⟩
  · rw [List.getElem?_replicate] at e
    split at e
    · cases e
    · cases e
theorem spG_bad {S : Fx} {np : Nat} {vs : List V} {H : Hp} {Q : VK} {E : XK} {call : List Va → Hh → RE Va} (hb : ∀ as h, call as h = .bad) (h : spG S call np vs H Q E) : False := by
  obtain ⟨_, ρ, hh, as, _, _, o⟩ := h
  rw [hb] at o
  exact o
theorem callN_ok {P : Program} {w : World} {K : PySem.W.Frag} {mg : Str → Option Value} {base : Heap} {S : Fx} {G : List (Str × Gd)} {KW : List (Str × Nat × List Str)} {es : List Ent} {T : List Df} (M : ModOk K mg G KW es T) (hK : S.K = K) :
    ∀ (k : Nat) (g : Nat) (e : Ent) (f : Addr) (fd : FuncData), es[g]? = some e → mg e.x = some (.ref f) → FunD K e.x e.x (defArgs e.st) (defBody e.st) (defScope e.st) [] [] f fd →
      FnG P w K mg base (L2.CX P w) (k + 7) f fd e.ps (spG S (callN S.ns T k g) e.ps.length)
  | 0, g, e, f, fd, _, _, _ => ⟨fun vs H Q E h => h.1, fun A outer s H args us vs Q E _ _ _ _ _ h => (spG_bad (fun _ _ => rfl) h).elim⟩
  | k + 1, g, e, f, fd, he, hm, F => by
    obtain ⟨b, hT, hc⟩ := M.tb g e he
    have sc := M.sc g e he
    refine fnG_of (k := k + 7) F sc (fun vs H Q E h => h.1) fun cdv A outer s H vs Q E hr hgd ok h => ?_
    obtain ⟨hl, ρ, hh, as, mo, r, o⟩ := h
    have G' : Good S (WEx E) ⟨S.ns, callN S.ns T k⟩ (cxOf (L2.CX P w) P w K mg base e.N e.x (defScope e.st) f cdv A outer s H E) ⟨e.N, defScope e.st, none, G, KW⟩ := {
      hN := rfl
      nd := sc.nd
      sc := rfl
      calm := rfl
      fn := fun _ _ => rfl
      k := hK.symm
      ns := rfl
      units := by have := hr.un; show (A.deeper _).units + 300 < cLine; omega
      guards := hgd
      blt := M.blt
      calls := fun x g' ps hx => by
        obtain ⟨e', h1, rfl, rfl⟩ := M.gl x g' ps hx
        obtain ⟨f', fd', m', F', b', kw'⟩ := M.fns g' e' h1
        exact ⟨f', fd', k + 7, m', F'.kp, hr, callN_ok M hK k g' e' f' fd' h1 m' F', b', kw'⟩
      takes := fun σ => passAt (takes_of rfl rfl rfl rfl) σ }
    have hp : PassesOwn (model P w) (A.deeper (envOfC e.x (defScope e.st) s.heap.objs.size f cdv)) (envOfC e.x (defScope e.st) s.heap.objs.size f cdv) (cxOf (L2.CX P w) P w K mg base e.N e.x (defScope e.st) f cdv A outer s H E).xe := PassesOwn.leaving
    refine ⟨rdX S (WEx E) (exs ⟨S.ns, callN S.ns T k⟩ b), pss_ok (cS_ok G' hp sc.kind FU) _ b hc, ρ, _, hh, rs_start r e.N.length, mo, ?_⟩
    have hal : as.length = e.ps.length := by rw [Paired.length r, hl]
    have o : Out S (RV S) (WEx E) ρ (match T[g]? with
      | some d => runDf ⟨S.ns, callN S.ns T k⟩ d as hh
      | none => .bad) [] Q := o
    rw [hT] at o
    have o : Out S (RV S) (WEx E) ρ (if as.length = e.ps.length then
      match exs ⟨S.ns, callN S.ns T k⟩ b (as.map some ++ List.replicate (e.N.length - as.length) none) hh with
      | .rt v h1 => .ok v h1
      | .nx _ h1 => .ok .non h1
      | .exc c e _ h1 => .exc c e h1
      | _ => .bad
      else .bad) [] Q := o
    rw [if_pos hal] at o
    cases q : exs ⟨S.ns, callN S.ns T k⟩ b (as.map some ++ List.replicate (e.N.length - as.length) none) hh with
    | nx σ h1 =>
      rw [q] at o
      exact fun ρ' τ' H' le _ m => o ρ' .non H' le m rfl
    | rt v h1 =>
      rw [q] at o
      exact fun ρ' x H' le m rv => o ρ' x H' le m rv
    | bk σ h1 => rw [q] at o; exact o.elim
    | ct σ h1 => rw [q] at o; exact o.elim
    | exc cc d σ h1 =>
      rw [q] at o
      exact ⟨o.1, o.2.1, fun ρ' τ' H' C a le _ m e1 e2 => o.2.2 ρ' H' C a le m e1 e2⟩
    | bad => rw [q] at o; exact o.elim
end HA

namespace HA
open PySem PySem.Spec PyProof.Rows L2

/-! ### a law -/
def spLaw (K : PySem.W.Frag) : Sp := fun vs H Q _ => ∃ (a : Addr) (ns : List Int), vs = [.ref a] ∧ ns.length ≤ 63 ∧ Only H ∧ SqL K H a (ns.map V.int) ∧ ∀ H', Q (.bl true) H'
def LawT (T : List Df) (k g : Nat) : Prop := ∀ ns : List Int, ns.length ≤ 63 → ∃ h, callN ns T k g [.scr] [] = .ok (.bl true) h
theorem lawG {P : Program} {w : World} {K : PySem.W.Frag} {mg : Str → Option Value} {base : Heap} {G : List (Str × Gd)} {KW : List (Str × Nat × List Str)} {es : List Ent} {T : List Df} (M : ModOk K mg G KW es T) {k g : Nat} {e : Ent} {f : Addr} {fd : FuncData} {x : Str}
    (he : es[g]? = some e) (hm : mg e.x = some (.ref f)) (F : FunD K e.x e.x (defArgs e.st) (defBody e.st) (defScope e.st) [] [] f fd) (hp : e.ps = [x]) (L : LawT T k g) : FnG P w K mg base (L2.CX P w) (k + 7) f fd [x] (spLaw K) := by
  refine ⟨fun vs H Q E ⟨a, ns, hv, _⟩ => by rw [hv]; rfl, fun A outer s H args us vs Q E hr hgd e0 hb r ⟨a, ns, hv, hl, hO, hS, hQ⟩ => ?_⟩
  have FG := callN_ok (P := P) (w := w) (base := base) (S := ⟨K, a, ns, fun _ => none⟩) M rfl k g e f fd he hm F
  rw [hp] at FG
  refine FG.run A outer s H args us vs Q E hr hgd e0 hb r ⟨by rw [hv]; rfl, [], [], [.scr], ⟨rfl, fun l1 l2 a e => by simp at e, fun l o e => by simp at e, ScrOk.of hO hS⟩, by rw [hv]; exact .cons rfl .nil, ?_⟩
  obtain ⟨h1, q⟩ := L ns hl
  rw [q]
  intro ρ' x H' _ _ rv
  cases rv
  exact hQ H'
/-- the law's call, from the promise at its def -/
theorem law_callG {P : Program} {w : World} {K : PySem.W.Frag} {mg mb : Str → Option Value} {k : Nat} {fa a : Addr} {fd : FuncData} {x : Str} {s₁ : Shared} {vs : List Value} {ns : List Int}
    (KX : K.In s₁.heap) (hns : s₁.heap.Ns mainGlobals mg) (hb : s₁.heap.Ns builtinsNs mb) (hbb : ∀ x : Str, x ≠ "__name__" → mb x = bootBuiltins x) (hlim : s₁.heap.NoLimit) (hg : s₁.gens = #[])
    (ha : s₁.heap.get? a = some { cls := .type "list", data := .seq vs.toArray }) (hi : IntsAre vs ns) (hl : ns.length ≤ 63) (hr : Room k callerA)
    (F : ∀ base : Heap, K.In base → base.Ns mainGlobals mg → FnG P w K mg base (L2.CX P w) k fa fd [x] (spLaw K)) (hbind : ∀ (s : Shared) (u : Value), BindsTo s fd ⟨[u], []⟩ [(x, u)]) :
    codeAny (model P w) callerA (.call (.ref fa) ⟨[.ref a], []⟩) (fun r s' => r = .ok (.ret (.bool true)) ∧ OldK s₁.heap s'.heap ∧ s'.os = s₁.os ∧ AllBare s'.gens) s₁ := by
  have rv := vals_ints hi
  have hz : ns.length ≤ sizeLine := by rw [sizeLine_eq]; omega
  have core : ∀ H : Hp, Only H → SqL K H a (ns.map V.int) → HOk P w H s₁.heap → (∀ b, H b ≠ none → b = a) → (H a ≠ none → K.lookup a = none) →
      codeAny (model P w) callerA (.call (.ref fa) ⟨[.ref a], []⟩) (fun r s' => r = .ok (.ret (.bool true)) ∧ OldK s₁.heap s'.heap ∧ s'.os = s₁.os ∧ AllBare s'.gens) s₁ := by
    intro H hO hS hok hA hK
    have only : ∀ {b : Addr} {u : HO}, H b = some u → b = a := fun {b u} e => hA b (by rw [e]; exact Option.some_ne_none _)
    have nsK : ∀ {b : Addr} {m : Str → Option Value}, s₁.heap.Ns b m → (hidT s₁.heap H).Ns b m := fun {b m} ⟨o, es, ep, e, d, r⟩ => by
      refine ⟨o, es, ep, hidT_get e ?_, d, r⟩
      cases q : H b with
      | none => rfl
      | some u =>
        have e' := only q
        subst e'
        rw [ha] at e
        cases e
        exact absurd d (fun z => by cases z)
    have hKb : K.In (hidT s₁.heap H) := fun b o e => by
      refine hidT_get (KX b o e) ?_
      cases q : H b with
      | none => rfl
      | some u =>
        have e' := only q
        subst e'
        rw [hK (by rw [q]; exact Option.some_ne_none _)] at e
        cases e
    have e0 : Env0 P w K mg (hidT s₁.heap H) callerA [] s₁ H :=
      ⟨rfl, ⟨hKb, nsK hns, ⟨mb, nsK hb, hbb⟩, let ⟨mc, h1, h2⟩ := hlim; ⟨mc, nsK h1, h2⟩⟩, fun b o e => of_hidT e, Nat.le_of_eq (hidT_size _ _), trivial, fun b hb => absurd (show b ∈ ([] : List Addr) from hb) (by simp), hok, .of_eq hg⟩
    refine codeAny_mono ((F _ hKb (nsK hns)).run callerA [] s₁ H ⟨[.ref a], []⟩ [.ref a] [.ref a] (fun v _ => v = .bl true) (fun _ _ _ => False) hr rfl e0 (hbind s₁ (.ref a)) (.cons rfl .nil) ⟨a, ns, rfl, hl, hO, hS, fun _ => rfl⟩) fun r s' h => ?_
    cases r with
    | error e =>
      obtain ⟨_, _, _, _, _, _, _, _, _, _, _, _, z⟩ := h
      exact z.elim
    | ok fl =>
      cases fl with
      | next => exact False.elim h
      | brk => exact False.elim h
      | cont => exact False.elim h
      | ret u =>
        obtain ⟨v, H', os, bare, un, hok', r', q⟩ := h
        have q : v = .bl true := q
        subst q
        obtain rfl : u = Value.bool true := r'
        refine ⟨rfl, OldK.of_keep fun b o e => ?_, os, bare⟩
        cases q : H b with
        | none => exact un.keep b o e q (fun z => absurd (show b ∈ ([] : List Addr) from z) (by simp)) (by simp)
        | some u =>
          rcases hO b with z | ⟨ob, xs, z⟩
          · rw [q] at z; cases z
          · have z2 := un.frzs b ob _ z
            obtain ⟨e1, _⟩ := hok b _ z
            obtain ⟨e2, _⟩ := hok' b _ z2
            rw [e] at e1
            cases e1
            exact e2
  cases hk : K.lookup a with
  | some o =>
    have e := KX a o hk
    rw [ha] at e
    cases e
    exact core (fun _ => none) (fun _ => .inl rfl) (.inr ⟨_, vs.toArray, _, hk, rfl, rfl, rfl, by rw [List.size_toArray, hi.length]; exact hz, by simpa using rv⟩) (fun b u z => by have z : (none : Option HO) = some u := z; cases z) (fun b z => absurd rfl z) fun z => absurd rfl z
  | none =>
    refine core (fun b => if b = a then some (.frz { cls := .type "list", data := .seq vs.toArray } (.lst (ns.map V.int))) else none) (fun b => ?_) (.inl (.inr ⟨{ cls := .type "list", data := .seq vs.toArray }, if_pos rfl⟩)) (fun b u z => ?_) (fun b z => ?_) fun _ => hk
    · by_cases hb : b = a
      · exact .inr ⟨_, _, if_pos hb⟩
      · exact .inl (if_neg hb)
    · by_cases hb : b = a
      · have z' := (if_pos hb).symm.trans z
        cases z'
        subst hb
        exact ⟨ha, by rw [List.length_map]; exact hz, vs, _, rv, ha⟩
      · have z' := (if_neg hb).symm.trans z
        cases z'
    · by_cases hb : b = a
      · exact hb
      · exact absurd (if_neg hb) z
/-- the goal that the head leaves -/
theorem walkG {l : PySem.W.OpenLaw} {k : Nat} {q : Program} {loose : List Str} {XP : (Str → Option Value) → Heap → Prop} {YP : World → Heap → Prop} {d : DefRec} {x : Str}
    (hn : l.most = some 63) (hdf : d.params.defaults = []) (hr : Room k callerA)
    (F : ∀ (w : World) (mg : Str → Option Value) (fa : Addr) (h : Heap), YP w h → h.Ns mainGlobals mg → mg d.name = some (.ref fa) →
      ∃ (K : PySem.W.Frag) (fd : FuncData), K.In h ∧ (∀ (s : Shared) (u : Value), BindsTo s fd ⟨[u], []⟩ [(x, u)]) ∧
        ∀ base : Heap, K.In base → base.Ns mainGlobals mg → FnG l.prog w K mg base (L2.CX l.prog w) k fa fd [x] (spLaw K)) :
    PySem.W.WalkO q loose XP YP l.row.toRowW d [] (fun f vs => PySem.call f vs) := by
  refine Att.attach_call hn hdf fun w s₀ s₁ mg mb fa o pm cd doc a vs ns G Y ho hd hcd hmg hobj hints hlen hg => ?_
  obtain ⟨K, fd, KX, hb, hF⟩ := F w mg fa _ Y G.T.g hmg
  exact law_callG KX G.T.g G.T.b G.T.builtins G.T.nolimit hg hobj hints hlen hr hF hb
end HA

namespace HA
open PySem PySem.Spec PyProof.Rows L2

/-! ### bounds that a proof can look at without counting -/
/-- -(N + 1) ≤ i ≤ N -/
def nin (N : Nat) : Int → Bool
  | .ofNat n => Nat.ble n N
  | .negSucc n => Nat.ble n N
theorem nin_iff {N : Nat} {i : Int} : nin N i = true ↔ -(N + 1 : Int) ≤ i ∧ i ≤ N := by
  cases i with
  | ofNat n =>
    show Nat.ble n N = true ↔ _
    rw [Nat.ble_eq]
    constructor
    · intro h; constructor <;> (simp only [Int.ofNat_eq_natCast]; omega)
    · intro h; simp only [Int.ofNat_eq_natCast] at h; omega
  | negSucc n =>
    show Nat.ble n N = true ↔ _
    rw [Nat.ble_eq]
    constructor
    · intro h; constructor <;> omega
    · intro h; omega
/-- 0 < i ≤ N -/
def pin (N : Nat) : Int → Bool
  | .ofNat n => Nat.ble 1 n && Nat.ble n N
  | .negSucc _ => false
theorem pin_iff {N : Nat} {i : Int} : pin N i = true ↔ 0 < i ∧ i ≤ N := by
  cases i with
  | ofNat n =>
    show (Nat.ble 1 n && Nat.ble n N) = true ↔ _
    rw [Bool.and_eq_true, Nat.ble_eq, Nat.ble_eq]
    constructor
    · intro h; constructor <;> (simp only [Int.ofNat_eq_natCast]; omega)
    · intro h; simp only [Int.ofNat_eq_natCast] at h; omega
  | negSucc n =>
    constructor
    · intro h; cases h
    · intro h; omega

/-! ### trees -/
inductive Tr where
  | non | bl (b : Bool) | int (i : Int) | str (x : Str)
  | lst (xs : List Tr)
  | tup (xs : List Tr)
  | dK (kvs : List (Key × Tr))
  | dT (kvs : List (List Key × Tr))
  | scr
/-- where a value may lie: the label, whether it can be changed -/
abbrev PP := Nat → Bool → Prop
mutual
inductive Rd' (P : PP) (h : Hh) : Va → Tr → Prop where
  | non : Rd' P h .non .non
  | bl (b : Bool) : Rd' P h (.bl b) (.bl b)
  | int (i : Int) : Rd' P h (.int i) (.int i)
  | str (x : Str) : Rd' P h (.str x) (.str x)
  | scr : Rd' P h .scr .scr
  | lst {l : Nat} {xs : List Va} {ts : List Tr} (p : P l true) (q : h[l]? = some (.lst xs)) (r : Rds P h xs ts) : Rd' P h (.ref l) (.lst ts)
  | tup {l : Nat} {xs : List Va} {ts : List Tr} (p : P l false) (q : h[l]? = some (.tup xs)) (r : Rds P h xs ts) : Rd' P h (.ref l) (.tup ts)
  | dK {l : Nat} {kvs : List (Key × Va)} {kts : List (Key × Tr)} (p : P l true) (q : h[l]? = some (.dK kvs)) (e : kvs.map (·.1) = kts.map (·.1)) (r : Rds P h (kvs.map (·.2)) (kts.map (·.2))) : Rd' P h (.ref l) (.dK kts)
  | dT {l : Nat} {kvs : List (List Key × Va)} {kts : List (List Key × Tr)} (p : P l true) (q : h[l]? = some (.dT kvs)) (e : kvs.map (·.1) = kts.map (·.1)) (r : Rds P h (kvs.map (·.2)) (kts.map (·.2))) : Rd' P h (.ref l) (.dT kts)
inductive Rds (P : PP) (h : Hh) : List Va → List Tr → Prop where
  | nil : Rds P h [] []
  | cons {v : Va} {t : Tr} {vs : List Va} {ts : List Tr} (a : Rd' P h v t) (r : Rds P h vs ts) : Rds P h (v :: vs) (t :: ts)
end
/-- the top wherever it lies -/
def RTop (P : PP) (h : Hh) (v : Va) : Tr → Prop
  | .non => v = .non
  | .bl b => v = .bl b
  | .int i => v = .int i
  | .str x => v = .str x
  | .scr => v = .scr
  | .lst ts => ∃ l xs, v = .ref l ∧ h[l]? = some (.lst xs) ∧ Rds P h xs ts
  | .tup ts => ∃ l xs, v = .ref l ∧ h[l]? = some (.tup xs) ∧ Rds P h xs ts
  | .dK kts => ∃ l kvs, v = .ref l ∧ h[l]? = some (.dK kvs) ∧ kvs.map (·.1) = kts.map (·.1) ∧ Rds P h (kvs.map (·.2)) (kts.map (·.2))
  | .dT kts => ∃ l kvs, v = .ref l ∧ h[l]? = some (.dT kvs) ∧ kvs.map (·.1) = kts.map (·.1) ∧ Rds P h (kvs.map (·.2)) (kts.map (·.2))
theorem Rd'.top {P : PP} {h : Hh} {v : Va} {t : Tr} (r : Rd' P h v t) : RTop P h v t := by
  cases r <;> first | rfl | exact ⟨_, _, rfl, ‹_›, ‹_›⟩ | exact ⟨_, _, rfl, ‹_›, ‹_›, ‹_›⟩
mutual
theorem Rd'.imp {P Q : PP} {h h' : Hh} (f : ∀ l m o, P l m → h[l]? = some o → Q l m ∧ h'[l]? = some o) : ∀ {v : Va} {t : Tr}, Rd' P h v t → Rd' Q h' v t
  | _, _, .non => .non
  | _, _, .bl b => .bl b
  | _, _, .int i => .int i
  | _, _, .str x => .str x
  | _, _, .scr => .scr
  | _, _, .lst p q r => .lst (f _ _ _ p q).1 (f _ _ _ p q).2 (Rds.imp f r)
  | _, _, .tup p q r => .tup (f _ _ _ p q).1 (f _ _ _ p q).2 (Rds.imp f r)
  | _, _, .dK p q e r => .dK (f _ _ _ p q).1 (f _ _ _ p q).2 e (Rds.imp f r)
  | _, _, .dT p q e r => .dT (f _ _ _ p q).1 (f _ _ _ p q).2 e (Rds.imp f r)
theorem Rds.imp {P Q : PP} {h h' : Hh} (f : ∀ l m o, P l m → h[l]? = some o → Q l m ∧ h'[l]? = some o) : ∀ {v : List Va} {t : List Tr}, Rds P h v t → Rds Q h' v t
  | _, _, .nil => .nil
  | _, _, .cons a r => .cons (Rd'.imp f a) (Rds.imp f r)
end
theorem RTop.imp {P Q : PP} {h h' : Hh} (f : ∀ l m o, P l m → h[l]? = some o → Q l m ∧ h'[l]? = some o) {v : Va} {t : Tr} (r : RTop P h v t) (ft : ∀ l o, v = .ref l → h[l]? = some o → h'[l]? = some o) : RTop Q h' v t := by
  cases t with
  | lst ts => obtain ⟨l, xs, rfl, q, r⟩ := r; exact ⟨l, xs, rfl, ft _ _ rfl q, r.imp f⟩
  | tup ts => obtain ⟨l, xs, rfl, q, r⟩ := r; exact ⟨l, xs, rfl, ft _ _ rfl q, r.imp f⟩
  | dK ts => obtain ⟨l, xs, rfl, q, e, r⟩ := r; exact ⟨l, xs, rfl, ft _ _ rfl q, e, r.imp f⟩
  | dT ts => obtain ⟨l, xs, rfl, q, e, r⟩ := r; exact ⟨l, xs, rfl, ft _ _ rfl q, e, r.imp f⟩
  | _ => exact r
theorem Rds.len {P : PP} {h : Hh} : ∀ {vs : List Va} {ts : List Tr}, Rds P h vs ts → vs.length = ts.length
  | _, _, .nil => rfl
  | _, _, .cons _ r => by rw [List.length_cons, List.length_cons, Rds.len r]
theorem Rds.app {P : PP} {h : Hh} : ∀ {vs ws : List Va} {ts us : List Tr}, Rds P h vs ts → Rds P h ws us → Rds P h (vs ++ ws) (ts ++ us)
  | _, _, _, _, .nil, s => s
  | _, _, _, _, .cons a r, s => .cons a (Rds.app r s)
theorem Rds.get {P : PP} {h : Hh} : ∀ {vs : List Va} {ts : List Tr} {i : Nat} {t : Tr}, Rds P h vs ts → ts[i]? = some t → ∃ v, vs[i]? = some v ∧ Rd' P h v t
  | _, _, _, _, .nil, e => by simp at e
  | _, _, 0, _, .cons a _, e => by simp at e; subst e; exact ⟨_, rfl, a⟩
  | _, _, i + 1, t, .cons _ r, e => by
    obtain ⟨v, h1, h2⟩ := Rds.get (i := i) (t := t) r (by simpa using e)
    exact ⟨v, by simpa using h1, h2⟩
theorem Rds.take {P : PP} {h : Hh} : ∀ {vs : List Va} {ts : List Tr} (n : Nat), Rds P h vs ts → Rds P h (vs.take n) (ts.take n)
  | _, _, 0, _ => .nil
  | _, _, n + 1, .nil => .nil
  | _, _, n + 1, .cons a r => .cons a (Rds.take n r)
theorem Rds.drop {P : PP} {h : Hh} : ∀ {vs : List Va} {ts : List Tr} (n : Nat), Rds P h vs ts → Rds P h (vs.drop n) (ts.drop n)
  | _, _, 0, r => r
  | _, _, n + 1, .nil => .nil
  | _, _, n + 1, .cons a r => Rds.drop n r
theorem Rds.set {P : PP} {h : Hh} {v : Va} {t : Tr} (a : Rd' P h v t) : ∀ {vs : List Va} {ts : List Tr} (n : Nat), Rds P h vs ts → Rds P h (vs.set n v) (ts.set n t)
  | _, _, _, .nil => .nil
  | _, _, 0, .cons _ r => .cons a r
  | _, _, n + 1, .cons b r => .cons b (Rds.set a n r)
theorem Rds.rev {P : PP} {h : Hh} : ∀ {vs : List Va} {ts : List Tr}, Rds P h vs ts → Rds P h vs.reverse ts.reverse
  | _, _, .nil => .nil
  | _, _, .cons a r => by rw [List.reverse_cons, List.reverse_cons]; exact (Rds.rev r).app (.cons a .nil)
theorem Rds.rep {P : PP} {h : Hh} {vs : List Va} {ts : List Tr} (r : Rds P h vs ts) : ∀ n : Nat, Rds P h (List.replicate n vs).flatten (List.replicate n ts).flatten
  | 0 => .nil
  | n + 1 => by
    rw [List.replicate_succ, List.replicate_succ, List.flatten_cons, List.flatten_cons]
    exact r.app (Rds.rep r n)
theorem Rds.dropLast {P : PP} {h : Hh} : ∀ {vs : List Va} {ts : List Tr}, Rds P h vs ts → Rds P h vs.dropLast ts.dropLast
  | _, _, .nil => .nil
  | _, _, .cons a .nil => .nil
  | _, _, .cons a (.cons b r) => .cons a (Rds.dropLast (.cons b r))
theorem Rds.erase {P : PP} {h : Hh} : ∀ {vs : List Va} {ts : List Tr} (n : Nat), Rds P h vs ts → Rds P h (vs.eraseIdx n) (ts.eraseIdx n)
  | _, _, _, .nil => .nil
  | _, _, 0, .cons _ r => r
  | _, _, n + 1, .cons a r => .cons a (Rds.erase n r)
theorem Rds.isE {P : PP} {h : Hh} {vs : List Va} {ts : List Tr} (r : Rds P h vs ts) : vs.isEmpty = ts.isEmpty := by cases r <;> rfl
/-! ### as data -/
def datG {α : Type} (f : α → Option PyData) : List α → Option (List PyData)
  | [] => some []
  | x :: r => match f x with
    | some d => match datG f r with
      | some ds => some (d :: ds)
      | none => none
    | none => none
def datT : Nat → Tr → Option PyData
  | _, .non => some .none
  | _, .bl b => some (.bool b)
  | _, .int i => some (.int i)
  | _, .str x => some (.str x)
  | n + 1, .lst ts => match datG (datT n) ts with
    | some ds => some (.list ds)
    | none => none
  | n + 1, .tup ts => match datG (datT n) ts with
    | some ds => some (.tuple ds)
    | none => none
  | _, _ => none
theorem datG_eq {P : PP} {h : Hh} {f : Va → Option PyData} {g : Tr → Option PyData} (hf : ∀ v t, Rd' P h v t → f v = g t) : ∀ {vs : List Va} {ts : List Tr}, Rds P h vs ts → datL f vs = datG g ts
  | _, _, .nil => rfl
  | _, _, .cons a r => by
    unfold datL datG
    rw [hf _ _ a, datG_eq hf r]
    all_goals (cases g _ <;> first | rfl | (cases datG g _ <;> rfl))
theorem datT_top {P : PP} {h : Hh} : ∀ (n : Nat) {v : Va} {t : Tr}, RTop P h v t → dat n h v = datT n t := by
  intro n
  induction n with
  | zero =>
    intro v t r
    cases t with
    | lst ts => obtain ⟨l, xs, rfl, q, r⟩ := r; rfl
    | tup ts => obtain ⟨l, xs, rfl, q, r⟩ := r; rfl
    | dK ts => obtain ⟨l, xs, rfl, q, e, r⟩ := r; rfl
    | dT ts => obtain ⟨l, xs, rfl, q, e, r⟩ := r; rfl
    | _ => cases r; rfl
  | succ n ih =>
    intro v t r
    cases t with
    | lst ts =>
      obtain ⟨l, xs, rfl, q, r⟩ := r
      unfold dat datT
      rw [q]
      simp only []
      rw [datG_eq (fun v t r => ih r.top) r]
      all_goals (cases datG (datT n) ts <;> rfl)
    | tup ts =>
      obtain ⟨l, xs, rfl, q, r⟩ := r
      unfold dat datT
      rw [q]
      simp only []
      rw [datG_eq (fun v t r => ih r.top) r]
      all_goals (cases datG (datT n) ts <;> rfl)
    | dK ts => obtain ⟨l, xs, rfl, q, e, r⟩ := r; unfold dat datT; rw [q]
    | dT ts => obtain ⟨l, xs, rfl, q, e, r⟩ := r; unfold dat datT; rw [q]
    | _ => cases r; rfl
theorem datD_eq {P : PP} {h : Hh} {v : Va} {t : Tr} (r : RTop P h v t) : dat DD h v = datT DD t := datT_top DD r
/-! ### immediate: nothing in it can be changed -/
mutual
def imm : Tr → Bool
  | .lst _ => false
  | .dK _ => false
  | .dT _ => false
  | .tup ts => immL ts
  | _ => true
def immL : List Tr → Bool
  | [] => true
  | t :: ts => imm t && immL ts
end
mutual
theorem imm_rd {P Q : PP} {h : Hh} (f : ∀ l, P l false → Q l false) : ∀ {v : Va} {t : Tr}, Rd' P h v t → imm t = true → Rd' Q h v t
  | _, _, .non, _ => .non
  | _, _, .bl b, _ => .bl b
  | _, _, .int i, _ => .int i
  | _, _, .str x, _ => .str x
  | _, _, .scr, _ => .scr
  | _, _, .lst p q r, e => by cases e
  | _, _, .tup p q r, e => .tup (f _ p) q (immL_rd f r e)
  | _, _, .dK p q e r, z => by cases z
  | _, _, .dT p q e r, z => by cases z
theorem immL_rd {P Q : PP} {h : Hh} (f : ∀ l, P l false → Q l false) : ∀ {v : List Va} {t : List Tr}, Rds P h v t → immL t = true → Rds Q h v t
  | _, _, .nil, _ => .nil
  | _, _, .cons a r, e => by
    have e : (imm _ && immL _) = true := e
    rw [Bool.and_eq_true] at e
    exact .cons (imm_rd f a e.1) (immL_rd f r e.2)
end
end HA

namespace HA
open PySem PySem.Spec PyProof.Rows L2
variable {P : PP} {h : Hh}

/-! ### what an operation gives -/
/-- no reference -/
def atomT : Tr → Bool
  | .lst _ => false
  | .tup _ => false
  | .dK _ => false
  | .dT _ => false
  | _ => true
/-- behind a new object at l -/
abbrev PN (P : PP) (h : Hh) (l : Nat) : PP := fun x m => (P x m ∨ h.length ≤ x) ∧ x ≠ l
/-- mutable at the top -/
def mutT : Tr → Bool
  | .lst _ => true
  | .dK _ => true
  | .dT _ => true
  | _ => false
inductive ResOk (P : PP) (h : Hh) : RE Va → Tr → Prop where
  | pick {v : Va} {t : Tr} (r : Rd' P h v t) (hm : mutT t = false := by rfl) : ResOk P h (.ok v h) t
  | new {l : Nat} {t : Tr} (os : List Ob) (hl : h.length ≤ l) (r : RTop (PN P h l) (h ++ os) (.ref l) t) : ResOk P h (.ok (.ref l) (h ++ os)) t
theorem get_app {h : Hh} {os : List Ob} {l : Nat} {o : Ob} (e : h[l]? = some o) : (h ++ os)[l]? = some o := by
  rw [List.getElem?_append_left]
  · exact e
  · exact (List.getElem?_eq_some_iff.mp e).1
theorem lt_of_get {h : Hh} {l : Nat} {o : Ob} (e : h[l]? = some o) : l < h.length := (List.getElem?_eq_some_iff.mp e).1
theorem Rds.pn {vs : List Va} {ts : List Tr} {os : List Ob} {l : Nat} (hl : h.length ≤ l) (r : Rds P h vs ts) : Rds (PN P h l) (h ++ os) vs ts := r.imp fun x m o p q => ⟨⟨.inl p, fun z => by have := lt_of_get q; omega⟩, get_app q⟩
theorem Rd'.pn {vs : Va} {ts : Tr} {os : List Ob} {l : Nat} (hl : h.length ≤ l) (r : Rd' P h vs ts) : Rd' (PN P h l) (h ++ os) vs ts := r.imp fun x m o p q => ⟨⟨.inl p, fun z => by have := lt_of_get q; omega⟩, get_app q⟩
theorem new_lst {vs : List Va} {ts : List Tr} (r : Rds P h vs ts) : ResOk P h (alloc (.lst vs) h) (.lst ts) := .new [.lst vs] (Nat.le_refl _) ⟨_, vs, rfl, by simp, r.pn (Nat.le_refl _)⟩
theorem new_tup {vs : List Va} {ts : List Tr} (r : Rds P h vs ts) : ResOk P h (alloc (.tup vs) h) (.tup ts) := .new [.tup vs] (Nat.le_refl _) ⟨_, vs, rfl, by simp, r.pn (Nat.le_refl _)⟩
theorem new_dK {kvs : List (Key × Va)} {kts : List (Key × Tr)} (e : kvs.map (·.1) = kts.map (·.1)) (r : Rds P h (kvs.map (·.2)) (kts.map (·.2))) : ResOk P h (alloc (.dK kvs) h) (.dK kts) := .new [.dK kvs] (Nat.le_refl _) ⟨_, kvs, rfl, by simp, e, r.pn (Nat.le_refl _)⟩

/-! ### operators -/
def addT : Tr → Tr → Option Tr
  | .int i, .int j => some (.int (i + j))
  | .str x, .str y => if x.length + y.length ≤ BIG then some (.str (x ++ y)) else none
  | .lst xs, .lst ys => if xs.length + ys.length ≤ BIG then some (.lst (xs ++ ys)) else none
  | .tup xs, .tup ys => if xs.length + ys.length ≤ BIG then some (.tup (xs ++ ys)) else none
  | _, _ => none
def subT : Tr → Tr → Option Tr
  | .int i, .int j => some (.int (i - j))
  | _, _ => none
def mulT : Tr → Tr → Option Tr
  | .int i, .int j => if nin 18446744073709551614 i = true ∨ nin 18446744073709551614 j = true then some (.int (i * j)) else none
  | .lst xs, .int k => if nin 9223372036854775807 k = true ∧ xs.length * k.toNat ≤ BIG then some (.lst (List.replicate k.toNat xs).flatten) else none
  | _, _ => none
def fdivT : Tr → Tr → Option Tr
  | .int i, .int j => if pin 1073741823 j = true then some (.int (i / j)) else none
  | _, _ => none
def modT : Tr → Tr → Option Tr
  | .int i, .int j => if 0 < j then some (.int (i % j)) else none
  | _, _ => none
def powT : Tr → Tr → Option Tr
  | .int i, .int j => if 0 ≤ j ∧ j ≤ 1000000 ∧ i.natAbs < 18446744073709551616 then some (.int (i ^ j.toNat)) else none
  | _, _ => none
def negT : Tr → Option Tr
  | .int i => some (.int (-i))
  | _ => none
def binT : Bo → Tr → Tr → Option Tr
  | .add => addT | .sub => subT | .mul => mulT | .fdiv => fdivT | .mod => modT | .pow => powT
theorem add_ok {a b : Va} {s t u : Tr} (ra : RTop P h a s) (rb : RTop P h b t) (e : addT s t = some u) : ResOk P h (addV a b h) u := by
  unfold addT at e
  split at e
  · cases ra; cases rb; cases e; exact .pick (.int _)
  · cases ra; cases rb
    split at e
    · rename_i hz; cases e
      show ResOk P h (if _ then _ else _) _
      rw [if_pos hz]; exact .pick (.str _)
    · cases e
  · obtain ⟨l, xs, rfl, q, r⟩ := ra
    obtain ⟨m, ys, rfl, q2, r2⟩ := rb
    split at e
    · rename_i hz; cases e
      have e1 : addV (.ref l) (.ref m) h = alloc (.lst (xs ++ ys)) h := by
        unfold addV; simp only [q, q2]; rw [if_pos (by rw [r.len, r2.len]; exact hz)]
      rw [e1]; exact new_lst (r.app r2)
    · cases e
  · obtain ⟨l, xs, rfl, q, r⟩ := ra
    obtain ⟨m, ys, rfl, q2, r2⟩ := rb
    split at e
    · rename_i hz; cases e
      have e1 : addV (.ref l) (.ref m) h = alloc (.tup (xs ++ ys)) h := by
        unfold addV; simp only [q, q2]; rw [if_pos (by rw [r.len, r2.len]; exact hz)]
      rw [e1]; exact new_tup (r.app r2)
    · cases e
  · cases e
theorem nin64 {i : Int} (z : nin 18446744073709551614 i = true) : -B64 < i ∧ i < B64 := by
  have := nin_iff.mp z
  show -18446744073709551616 < i ∧ i < 18446744073709551616
  omega
theorem bin_ok (o : Bo) {a b : Va} {s t u : Tr} (ra : RTop P h a s) (rb : RTop P h b t) (e : binT o s t = some u) : ResOk P h (binV o a b h) u := by
  cases o
  · exact add_ok ra rb e
  · have e : subT s t = some u := e
    unfold subT at e
    split at e
    · cases ra; cases rb; cases e; exact .pick (.int _)
    · cases e
  · have e : mulT s t = some u := e
    unfold mulT at e
    split at e
    · cases ra; cases rb
      split at e
      · rename_i hz; cases e
        have hz := hz.imp (fun z => nin64 z) (fun z => nin64 z)
        show ResOk P h (if _ then _ else _) _
        rw [if_pos hz]; exact .pick (.int _)
      · cases e
    · obtain ⟨l, xs, rfl, q, r⟩ := ra
      cases rb
      split at e
      · rename_i hz; cases e
        rw [show binV Bo.mul = mulV from rfl]
        unfold mulV; simp only [q]; rw [if_pos (by rw [r.len]; have := nin_iff.mp hz.1; exact ⟨by omega, by omega, hz.2⟩)]
        exact new_lst (r.rep _)
      · cases e
    · cases e
  · have e : fdivT s t = some u := e
    unfold fdivT at e
    split at e
    · cases ra; cases rb
      split at e
      · rename_i hz; cases e
        show ResOk P h (if _ then _ else _) _
        rw [if_pos (by have := pin_iff.mp hz; omega)]; exact .pick (.int _)
      · cases e
    · cases e
  · have e : modT s t = some u := e
    unfold modT at e
    split at e
    · cases ra; cases rb
      split at e
      · rename_i hz; cases e
        show ResOk P h (if _ then _ else _) _
        rw [if_pos hz]; exact .pick (.int _)
      · cases e
    · cases e
  · have e : powT s t = some u := e
    unfold powT at e
    split at e
    · cases ra; cases rb
      split at e
      · rename_i hz; cases e
        show ResOk P h (if _ then _ else _) _
        rw [if_pos hz]; exact .pick (.int _)
      · cases e
    · cases e
theorem neg_ok {a : Va} {s u : Tr} (ra : RTop P h a s) (e : negT s = some u) : ResOk P h (negV a h) u := by
  unfold negT at e
  split at e
  · cases ra; cases e; exact .pick (.int _)
  · cases e

/-! ### comparisons -/
def eqT (neg : Bool) (a b : Tr) : Option Bool := match datT DD a, datT DD b with
  | some d, some e => if SeqAt.shaped d = true ∧ SeqAt.shaped e = true then some (neg ^^ PyData.eqv d e) else none
  | _, _ => none
def ordT (c : Oo) (a b : Tr) : Option Bool := match a, b with
  | .int i, .int j => some (ordI c i j)
  | _, _ => match datT DD a, datT DD b with
    | some d, some e => if SeqAt.shaped d = true ∧ PySem.W.alike d e = true ∧ dNone d = false then some (ordD c d e) else none
    | _, _ => none
def keyT : Tr → Option Key
  | .int i => some (.inl i)
  | .str x => some (.inr x)
  | _ => none
def keysT : List Tr → Option (List Key)
  | [] => some []
  | a :: r => match keyT a with
    | some k => match keysT r with
      | some ks => some (k :: ks)
      | none => none
    | none => none
def lookT {κ : Type} [DecidableEq κ] (kvs : List (κ × Tr)) (k : κ) : Option Tr := (kvs.find? fun kv => decide (kv.1 = k)).map (·.2)
def dLookT (d k : Tr) : Option (Option Tr) := match d with
  | .dK kvs => match keyT k with
    | some k => some (lookT kvs k)
    | none => match k with
      | .tup xs => if kvs.isEmpty = true ∧ (keysT xs).isSome = true then some none else none
      | _ => none
  | .dT kvs => match k with
    | .tup xs => match keysT xs with
      | some ks => some (lookT kvs ks)
      | none => none
    | _ => none
  | _ => none
theorem keyT_eq {v : Va} {t : Tr} (r : RTop P h v t) : keyOf v = keyT t := by
  cases t with
  | lst ts => obtain ⟨l, xs, rfl, q, r⟩ := r; rfl
  | tup ts => obtain ⟨l, xs, rfl, q, r⟩ := r; rfl
  | dK ts => obtain ⟨l, xs, rfl, q, e, r⟩ := r; rfl
  | dT ts => obtain ⟨l, xs, rfl, q, e, r⟩ := r; rfl
  | _ => cases r; rfl
theorem keysT_eq : ∀ {vs : List Va} {ts : List Tr}, Rds P h vs ts → keysOf vs = keysT ts
  | _, _, .nil => rfl
  | _, _, .cons a r => by
    unfold keysOf keysT
    rw [keyT_eq a.top, keysT_eq r]
    all_goals (cases keyT _ <;> first | rfl | (cases keysT _ <;> rfl))
theorem look_eq {κ : Type} [DecidableEq κ] (k : κ) : ∀ {kvs : List (κ × Va)} {kts : List (κ × Tr)}, kvs.map (·.1) = kts.map (·.1) → Rds P h (kvs.map (·.2)) (kts.map (·.2)) →
    (lookK kvs k = none ∧ lookT kts k = none) ∨ ∃ v t, lookK kvs k = some v ∧ lookT kts k = some t ∧ Rd' P h v t
  | [], [], _, _ => .inl ⟨rfl, rfl⟩
  | [], _ :: _, e, _ => by cases e
  | _ :: _, [], e, _ => by cases e
  | (k1, v) :: kvs, (k2, t) :: kts, e, r => by
    have e : k1 :: kvs.map (·.1) = k2 :: kts.map (·.1) := e
    injection e with e1 e2
    subst e1
    cases r with
    | cons a r =>
      unfold lookK lookT
      rw [List.find?_cons, List.find?_cons]
      by_cases hk : k1 = k
      · rw [show decide (k1 = k) = true from decide_eq_true hk]
        exact .inr ⟨v, t, rfl, rfl, a⟩
      · rw [show decide (k1 = k) = false from decide_eq_false hk]
        exact look_eq k e2 r
theorem dLook_ok {Q : PP} {l : Nat} {k : Va} {d kt : Tr} {o : Option Tr} (rd : RTop P h (.ref l) d) (rk : RTop Q h k kt) (e : dLookT d kt = some o) :
    (dLook h l k = some none ∧ o = none) ∨ ∃ v t, dLook h l k = some (some v) ∧ o = some t ∧ Rd' P h v t := by
  unfold dLookT at e
  split at e
  · obtain ⟨l', kvs, e0, q, e1, r⟩ := rd
    cases e0
    have ek := keyT_eq rk
    split at e
    · rename_i kk hk
      cases e
      unfold dLook
      rw [q]
      simp only [ek, hk]
      rcases look_eq kk e1 r with ⟨a, b⟩ | ⟨v, t, a, b, c⟩
      · exact .inl ⟨by rw [a], b⟩
      · exact .inr ⟨v, t, by rw [a], b, c⟩
    · rename_i hk
      split at e
      · rename_i xs
        obtain ⟨m, ys, rfl, q2, r2⟩ := rk
        split at e
        · rename_i hc
          cases e
          refine .inl ⟨?_, rfl⟩
          unfold dLook
          rw [q]
          simp only [ek, hk, q2]
          rw [if_pos]
          refine ⟨?_, by rw [keysT_eq r2]; exact hc.2⟩
          have h1 := hc.1
          have : kvs.map (·.1) = [] := by
            rw [e1]
            simpa using h1
          simpa using this
        · cases e
      · cases e
  · obtain ⟨l', kvs, e0, q, e1, r⟩ := rd
    cases e0
    split at e
    · obtain ⟨m, ys, rfl, q2, r2⟩ := rk
      split at e
      · rename_i ks hk
        cases e
        unfold dLook
        rw [q]
        simp only [q2]
        rw [keysT_eq r2, hk]
        simp only []
        rcases look_eq ks e1 r with ⟨a, b⟩ | ⟨v, t, a, b, c⟩
        · exact .inl ⟨by rw [a], b⟩
        · exact .inr ⟨v, t, by rw [a], b, c⟩
      · cases e
    · cases e
  · cases e
def inT (ng : Bool) (a b : Tr) : Option Bool := match a, b with
  | .str i, .str j => some (ng ^^ !(Builtin.Str.occurrences j i 0 j.length 1).isEmpty)
  | a, .lst ts => match datT DD a, datT DD (.lst ts) with
    | some d, some (.list ds) => if SeqAt.shaped d = true ∧ SeqAt.shaped (.list ds) = true then some (ng ^^ ds.any fun z => PyData.eqv z d) else none
    | _, _ => none
  | a, .tup ts => match datT DD a, datT DD (.tup ts) with
    | some d, some (.tuple ds) => if SeqAt.shaped d = true ∧ SeqAt.shaped (.tuple ds) = true then some (ng ^^ ds.any fun z => PyData.eqv z d) else none
    | _, _ => none
  | a, .dK kvs => match dLookT (.dK kvs) a with
    | some r => some (ng ^^ r.isSome)
    | none => none
  | a, .dT kvs => match dLookT (.dT kvs) a with
    | some r => some (ng ^^ r.isSome)
    | none => none
  | _, _ => none
def cmpT : Co → Tr → Tr → Option Bool
  | .eq => eqT false
  | .ne => eqT true
  | .ord o => ordT o
  | .in_ ng => inT ng
theorem eq_ok (ng : Bool) {a b : Va} {s t : Tr} {k : Bool} (ra : RTop P h a s) (rb : RTop P h b t) (e : eqT ng s t = some k) : eqD ng a b h = .ok (.bl k) h := by
  unfold eqT at e
  unfold eqD
  rw [datD_eq ra, datD_eq rb]
  split at e
  · rename_i d f e1 e2
    split at e
    · rename_i hz
      cases e
      first
        | (rw [e1, e2]; simp only []; rw [if_pos hz])
        | (rw [if_pos hz])
    · cases e
  · cases e
theorem ord_ok (c : Oo) {a b : Va} {s t : Tr} {k : Bool} (ra : RTop P h a s) (rb : RTop P h b t) (e : ordT c s t = some k) : ordV c a b h = .ok (.bl k) h := by
  unfold ordT at e
  split at e
  · cases ra; cases rb; cases e; rfl
  · rename_i hn
    have go : (match dat DD h a, dat DD h b with
      | some d, some e => if SeqAt.shaped d = true ∧ PySem.W.alike d e = true ∧ dNone d = false then RE.ok (Va.bl (ordD c d e)) h else .bad
      | _, _ => .bad) = .ok (.bl k) h := by
      rw [datD_eq ra, datD_eq rb]
      split at e
      · rename_i d f e1 e2
        split at e
        · rename_i hz
          cases e
          rw [if_pos hz]
        · cases e
      · cases e
    unfold ordV
    split
    · rename_i i j
      exfalso
      have h1 : s = .int i := by
        cases s with
        | lst ts => obtain ⟨l, xs, z, _⟩ := ra; cases z
        | tup ts => obtain ⟨l, xs, z, _⟩ := ra; cases z
        | dK ts => obtain ⟨l, xs, z, _⟩ := ra; cases z
        | dT ts => obtain ⟨l, xs, z, _⟩ := ra; cases z
        | int i => cases ra; rfl
        | _ => cases ra
      have h2 : t = .int j := by
        cases t with
        | lst ts => obtain ⟨l, xs, z, _⟩ := rb; cases z
        | tup ts => obtain ⟨l, xs, z, _⟩ := rb; cases z
        | dK ts => obtain ⟨l, xs, z, _⟩ := rb; cases z
        | dT ts => obtain ⟨l, xs, z, _⟩ := rb; cases z
        | int i => cases rb; rfl
        | _ => cases rb
      exact hn i j h1 h2
    · exact go
theorem in_ok (ng : Bool) {a b : Va} {s t : Tr} {k : Bool} (ra : RTop P h a s) (rb : RTop P h b t) (e : inT ng s t = some k) : inV ng a b h = .ok (.bl k) h := by
  unfold inT at e
  split at e
  · cases ra; cases rb; cases e; rfl
  · have rb0 := rb
    obtain ⟨m, ys, rfl, q2, r2⟩ := rb
    have ea := datD_eq ra
    have eb := datD_eq rb0
    split at e
    · rename_i d ds e1 e2
      split at e
      · rename_i hz
        cases e
        unfold inV
        simp only [q2, ea, eb, e1, e2]
        rw [if_pos hz]
      · cases e
    · cases e
  · have rb0 := rb
    obtain ⟨m, ys, rfl, q2, r2⟩ := rb
    have ea := datD_eq ra
    have eb := datD_eq rb0
    split at e
    · rename_i d ds e1 e2
      split at e
      · rename_i hz
        cases e
        unfold inV
        simp only [q2, ea, eb, e1, e2]
        rw [if_pos hz]
      · cases e
    · cases e
  · have rb0 := rb
    obtain ⟨m, kvs, rfl, q2, _⟩ := rb
    split at e
    · rename_i r er
      cases e
      unfold inV
      simp only [q2]
      rcases dLook_ok rb0 ra er with ⟨h1, rfl⟩ | ⟨v, t, h1, rfl, _⟩ <;> rw [h1] <;> rfl
    · cases e
  · have rb0 := rb
    obtain ⟨m, kvs, rfl, q2, _⟩ := rb
    split at e
    · rename_i r er
      cases e
      unfold inV
      simp only [q2]
      rcases dLook_ok rb0 ra er with ⟨h1, rfl⟩ | ⟨v, t, h1, rfl, _⟩ <;> rw [h1] <;> rfl
    · cases e
  · cases e
theorem cmp_ok (o : Co) {a b : Va} {s t : Tr} {k : Bool} (ra : RTop P h a s) (rb : RTop P h b t) (e : cmpT o s t = some k) : cmpV o a b h = .ok (.bl k) h := by
  cases o
  · exact eq_ok _ ra rb e
  · exact eq_ok _ ra rb e
  · exact ord_ok _ ra rb e
  · exact in_ok _ ra rb e
end HA

namespace HA
open PySem PySem.Spec PyProof.Rows L2
variable {P : PP} {h : Hh}

/-! ### subscripts, truth -/
theorem atI_rd {vs : List Va} {ts : List Tr} {i : Int} {t : Tr} (r : Rds P h vs ts) (e : atI ts i = some t) : ∃ v, atI vs i = some v ∧ Rd' P h v t := by
  unfold atI at e ⊢
  rw [r.len]
  cases hj : ixN ts.length i with
  | none => rw [hj] at e; cases e
  | some j =>
    rw [hj] at e
    exact r.get e
def idxT (a b : Tr) : Option Tr := match a, b with
  | .str z, .int i => if z.length ≤ BIG then match atI z.cps.toList i with
      | some c => some (.str ⟨#[c]⟩)
      | none => none
    else none
  | .lst xs, .int i => atI xs i
  | .tup xs, .int i => atI xs i
  | .dK kvs, b => match dLookT (.dK kvs) b with
    | some (some v) => some v
    | _ => none
  | .dT kvs, b => match dLookT (.dT kvs) b with
    | some (some v) => some v
    | _ => none
  | _, _ => none
theorem idx_ok {Q : PP} {a b : Va} {s t u : Tr} (ra : RTop P h a s) (rb : RTop Q h b t) (e : idxT s t = some u) : ∃ v, idxV a b h = .ok v h ∧ Rd' P h v u := by
  unfold idxT at e
  split at e
  · cases ra; cases rb
    split at e
    · rename_i hz
      split at e
      · rename_i c hc
        cases e
        unfold idxV
        simp only []
        rw [if_pos hz, hc]
        exact ⟨_, rfl, .str _⟩
      · cases e
    · cases e
  · obtain ⟨l, xs, rfl, q, r⟩ := ra
    cases rb
    obtain ⟨v, h1, h2⟩ := atI_rd r e
    unfold idxV
    simp only [q, h1]
    exact ⟨_, rfl, h2⟩
  · obtain ⟨l, xs, rfl, q, r⟩ := ra
    cases rb
    obtain ⟨v, h1, h2⟩ := atI_rd r e
    unfold idxV
    simp only [q, h1]
    exact ⟨_, rfl, h2⟩
  · have ra0 := ra
    obtain ⟨l, kvs, rfl, q, _⟩ := ra
    split at e
    · rename_i v er
      cases e
      rcases dLook_ok ra0 rb er with ⟨h1, z⟩ | ⟨v', t', h1, z, rv⟩
      · cases z
      · cases z
        unfold idxV
        simp only [q, h1]
        exact ⟨_, rfl, rv⟩
    · cases e
  · have ra0 := ra
    obtain ⟨l, kvs, rfl, q, _⟩ := ra
    split at e
    · rename_i v er
      cases e
      rcases dLook_ok ra0 rb er with ⟨h1, z⟩ | ⟨v', t', h1, z, rv⟩
      · cases z
      · cases z
        unfold idxV
        simp only [q, h1]
        exact ⟨_, rfl, rv⟩
    · cases e
  · cases e
def truT : Tr → Option Bool
  | .non => some false
  | .bl b => some b
  | .int i => some (i != 0)
  | .str y => if y.length ≤ BIG then some ((y.length : Int) != 0) else none
  | .lst xs => some (!xs.isEmpty)
  | .tup xs => some (!xs.isEmpty)
  | .dK kvs => some (!kvs.isEmpty)
  | .dT _ => none
  | .scr => none
theorem isE_len {α β : Type} {xs : List α} {ys : List β} (h : xs.length = ys.length) : xs.isEmpty = ys.isEmpty := by
  cases xs <;> cases ys <;> first | rfl | cases h
theorem keysLen {κ α β : Type} {xs : List (κ × α)} {ys : List (κ × β)} (h : xs.map (·.1) = ys.map (·.1)) : xs.length = ys.length := by
  have := congrArg List.length h
  simpa using this
theorem tru_ok {a : Va} {s : Tr} {k : Bool} (ra : RTop P h a s) (e : truT s = some k) : truV a h = some k := by
  cases s with
  | lst ts => obtain ⟨l, xs, rfl, q, r⟩ := ra; cases e; unfold truV; simp only [q, r.isE]
  | tup ts => obtain ⟨l, xs, rfl, q, r⟩ := ra; cases e; unfold truV; simp only [q, r.isE]
  | dK ts => obtain ⟨l, xs, rfl, q, e1, r⟩ := ra; cases e; unfold truV; simp only [q, isE_len (keysLen e1)]
  | dT ts => cases e
  | scr => cases e
  | str y => cases ra; exact e
  | _ => cases ra; exact e
theorem cutL_rd {vs : List Va} {ts : List Tr} (r : Rds P h vs ts) (lo hi : Option Int) : Rds P h (cutL vs lo hi) (cutL ts lo hi) := by
  unfold cutL
  rw [r.len]
  exact (r.drop _).take _
def slcT (a : Tr) (lo hi : Option Int) : Option Tr := match a with
  | .lst xs => some (.lst (cutL xs lo hi))
  | .tup xs => some (.tup (cutL xs lo hi))
  | _ => none
theorem slc_ok {a : Va} {s u : Tr} {lo hi : Option Int} (ra : RTop P h a s) (e : slcT s lo hi = some u) : ResOk P h (slcV a lo hi h) u := by
  unfold slcT at e
  split at e
  · obtain ⟨l, xs, rfl, q, r⟩ := ra
    cases e
    unfold slcV
    simp only [q]
    exact new_lst (cutL_rd r lo hi)
  · obtain ⟨l, xs, rfl, q, r⟩ := ra
    cases e
    unfold slcV
    simp only [q]
    exact new_tup (cutL_rd r lo hi)
  · cases e
def revT : Tr → Option Tr
  | .lst xs => some (.lst xs.reverse)
  | _ => none
theorem rev_ok {a : Va} {s u : Tr} (ra : RTop P h a s) (e : revT s = some u) : ResOk P h (revV a h) u := by
  unfold revT at e
  split at e
  · obtain ⟨l, xs, rfl, q, r⟩ := ra
    cases e
    unfold revV
    simp only [q]
    exact new_lst r.rev
  · cases e

/-! ### built-ins -/
def lenT : List Tr → Option Tr
  | [.str y] => if y.length ≤ BIG then some (.int y.length) else none
  | [.lst xs] => some (.int xs.length)
  | [.tup xs] => some (.int xs.length)
  | [.dK xs] => some (.int xs.length)
  | [.dT xs] => some (.int xs.length)
  | _ => none
def absT : List Tr → Option Tr
  | [.int i] => some (.int (if i < 0 then -i else i))
  | _ => none
def intT : List Tr → Option Tr
  | [.int i] => some (.int i)
  | [.bl k] => some (.int (if k then 1 else 0))
  | _ => none
def tupleT : List Tr → Option Tr
  | [.lst xs] => some (.tup xs)
  | [.tup xs] => some (.tup xs)
  | _ => none
def keyTr : Key → Tr
  | .inl i => .int i
  | .inr x => .str x
def listT (ns : List Int) : List Tr → Option Tr
  | [.scr] => some (.lst (ns.map .int))
  | [.lst xs] => some (.lst xs)
  | [.tup xs] => some (.lst xs)
  | [.dK kvs] => some (.lst (kvs.map fun kv => keyTr kv.1))
  | _ => none
def intsT : List Tr → Option (List Int)
  | [] => some []
  | .int i :: r => match intsT r with
    | some l => some (i :: l)
    | none => none
  | _ :: _ => none
def blsT : List Tr → Option (List Bool)
  | [] => some []
  | .bl i :: r => match blsT r with
    | some l => some (i :: l)
    | none => none
  | _ :: _ => none
def sumT : List Tr → Option Tr
  | [.lst xs] => match intsT xs with
    | some ns => some (.int ns.sum)
    | none => none
  | _ => none
def anyT : List Tr → Option Tr
  | [.lst xs] => match blsT xs with
    | some ns => some (.bl (ns.any id))
    | none => none
  | _ => none
def allT : List Tr → Option Tr
  | [.lst xs] => match blsT xs with
    | some ns => some (.bl (ns.all id))
    | none => none
  | _ => none
def atomTr : PyData → Option Tr
  | .none => some .non
  | .bool b => some (.bl b)
  | .int i => some (.int i)
  | .str x => some (.str x)
  | _ => none
def atomsTr : List PyData → Option (List Tr)
  | [] => some []
  | d :: ds => match atomTr d with
    | some v => match atomsTr ds with
      | some vs => some (v :: vs)
      | none => none
    | none => none
def resT (d : PyData) : Option Tr := match d with
  | .tuple ds => match atomsTr ds with
    | some vs => some (.tup vs)
    | none => none
  | d => atomTr d
def mmL (mx : Bool) (xs : List Tr) : Option Tr := match datG (datT DD) xs with
  | some (d :: ds) => if SeqAt.shaped (.list (d :: ds)) = true ∧ alikeB (d :: ds) = true ∧ noNone (d :: ds) = true then resT (mmD mx d ds) else none
  | _ => none
def mmT (mx : Bool) : List Tr → Option Tr
  | [.int i, .int j] => some (.int (if mx = true then (if j > i then j else i) else (if j < i then j else i)))
  | [.lst xs] => mmL mx xs
  | [.tup xs] => mmL mx xs
  | _ => none
def intKeysT {α : Type} : List (Key × α) → Option (List Int) := intKeys
def sortedT : List Tr → Option Tr
  | [.lst xs] => match datG (datT DD) xs with
    | some ds => if SeqAt.shaped (.list ds) = true ∧ alikeB ds = true ∧ sortable ds = true then some (.lst (sortL xs ds)) else none
    | none => none
  | [.dK kvs] => match intKeys kvs with
    | some ks => if ks.length < 64 then some (.lst ((ks.mergeSort fun a b => decide (a ≤ b)).map .int)) else none
    | none => none
  | _ => none
def reprT : List Tr → Option Tr
  | [.lst xs] => match datT DD (.lst xs) with
    | some d => if d.showable = true ∧ SeqAt.shaped d = true ∧ d.shown.length ≤ BIG then some (.str d.shown) else none
    | none => none
  | [.tup xs] => match datT DD (.tup xs) with
    | some d => if d.showable = true ∧ SeqAt.shaped d = true ∧ d.shown.length ≤ BIG then some (.str d.shown) else none
    | none => none
  | _ => none
def strT : List Tr → Option Tr
  | [.int i] => if i.natAbs.log2 < 1920 then some (.str (toString i)) else none
  | _ => none
def pairsT : List Tr → Option (List (Key × Tr))
  | [] => some []
  | .tup [k, v] :: r => match keyT k with
    | some k => match pairsT r with
      | some kvs => some ((k, v) :: kvs)
      | none => none
    | none => none
  | _ :: _ => none
def putT' {κ : Type} [DecidableEq κ] (kvs : List (κ × Tr)) (k : κ) (v : Tr) : List (κ × Tr) :=
  if kvs.any (fun kv => decide (kv.1 = k)) then kvs.map (fun kv => if kv.1 = k then (kv.1, v) else kv) else kvs ++ [(k, v)]
def mergeT (kvs : List (Key × Tr)) : List (Key × Tr) := kvs.foldl (fun acc kv => putT' acc kv.1 kv.2) []
def dictT : List Tr → Option Tr
  | [.lst xs] => match pairsT xs with
    | some kvs => some (.dK (mergeT kvs))
    | none => none
  | _ => none
def biT (ns : List Int) : Bi → List Tr → Option Tr
  | .len => lenT
  | .abs => absT
  | .int => intT
  | .tuple => tupleT
  | .list => listT ns
  | .sum => sumT
  | .any => anyT
  | .all => allT
  | .min => mmT false
  | .max => mmT true
  | .sorted => sortedT
  | .repr => reprT
  | .str => strT
  | .dict => dictT
/-- the arguments, tops wherever they lie -/
inductive RTops (P : PP) (h : Hh) : List Va → List Tr → Prop where
  | nil : RTops P h [] []
  | cons {v : Va} {t : Tr} {vs : List Va} {ts : List Tr} (a : RTop P h v t) (r : RTops P h vs ts) : RTops P h (v :: vs) (t :: ts)
theorem RTops.one {vs : List Va} {t : Tr} (r : RTops P h vs [t]) : ∃ v, vs = [v] ∧ RTop P h v t := by
  cases r with
  | cons a r => cases r; exact ⟨_, rfl, a⟩
theorem RTops.two {vs : List Va} {t u : Tr} (r : RTops P h vs [t, u]) : ∃ v w, vs = [v, w] ∧ RTop P h v t ∧ RTop P h w u := by
  cases r with
  | cons a r =>
    obtain ⟨w, rfl, b⟩ := r.one
    exact ⟨_, _, rfl, a, b⟩
theorem Rds.ints {l : List Int} : Rds P h (l.map .int) (l.map .int) := by
  induction l with
  | nil => exact .nil
  | cons x l ih => exact .cons (.int x) ih
theorem intsT_eq : ∀ {vs : List Va} {ts : List Tr} {l : List Int}, Rds P h vs ts → intsT ts = some l → intsOf vs = some l
  | _, _, _, .nil, e => e
  | _, _, l, .cons a r, e => by
    unfold intsT at e
    split at e
    · rename_i z; cases z
    · rename_i i r' z
      cases z
      cases a
      split at e
      · rename_i l' el
        cases e
        unfold intsOf
        rw [intsT_eq r el]
      · cases e
    · cases e
theorem blsT_eq : ∀ {vs : List Va} {ts : List Tr} {l : List Bool}, Rds P h vs ts → blsT ts = some l → blsOf vs = some l
  | _, _, _, .nil, e => e
  | _, _, l, .cons a r, e => by
    unfold blsT at e
    split at e
    · rename_i z; cases z
    · rename_i i r' z
      cases z
      cases a
      split at e
      · rename_i l' el
        cases e
        unfold blsOf
        rw [blsT_eq r el]
      · cases e
    · cases e
theorem atom_ok {d : PyData} {t : Tr} (e : atomTr d = some t) : ∃ v, atomV d = some v ∧ Rd' P h v t := by
  cases d <;> first
    | (cases e; done)
    | (cases e; exact ⟨_, rfl, .non⟩)
    | (cases e; exact ⟨_, rfl, .bl _⟩)
    | (cases e; exact ⟨_, rfl, .int _⟩)
    | (cases e; exact ⟨_, rfl, .str _⟩)
theorem atom_nm {d : PyData} {t : Tr} (e : atomTr d = some t) : mutT t = false := by
  cases d <;> first | (cases e; done) | (cases e; rfl)
theorem atoms_ok : ∀ {ds : List PyData} {ts : List Tr}, atomsTr ds = some ts → ∃ vs, atomsV ds = some vs ∧ Rds P h vs ts
  | [], ts, e => by cases e; exact ⟨[], rfl, .nil⟩
  | d :: ds, ts, e => by
    unfold atomsTr at e
    split at e
    · rename_i t et
      split at e
      · rename_i ts' ets
        cases e
        obtain ⟨v, h1, h2⟩ := atom_ok (P := P) (h := h) et
        obtain ⟨vs, h3, h4⟩ := atoms_ok (ds := ds) ets
        refine ⟨v :: vs, ?_, .cons h2 h4⟩
        unfold atomsV
        rw [h1, h3]
      · cases e
    · cases e
theorem res_ok {d : PyData} {t : Tr} (e : resT d = some t) : ResOk P h (resD d h) t := by
  unfold resT at e
  split at e
  · split at e
    · rename_i vs ev_
      cases e
      obtain ⟨ws, h1, h2⟩ := atoms_ok (P := P) (h := h) ev_
      unfold resD
      simp only [h1]
      exact new_tup h2
    · cases e
  · rename_i hn
    obtain ⟨v, h1, h2⟩ := atom_ok (P := P) (h := h) e
    unfold resD
    split
    · exact absurd rfl (hn _)
    · rw [h1]; exact .pick h2 (atom_nm e)
theorem putT_rel {κ : Type} [DecidableEq κ] {k : κ} {a : Va} {t : Tr} (ra : Rd' P h a t) {kvs : List (κ × Va)} {kts : List (κ × Tr)} (e : kvs.map (·.1) = kts.map (·.1)) (r : Rds P h (kvs.map (·.2)) (kts.map (·.2))) :
    (putL kvs k a).map (·.1) = (putT' kts k t).map (·.1) ∧ Rds P h ((putL kvs k a).map (·.2)) ((putT' kts k t).map (·.2)) := by
  have hany : kvs.any (fun kv => decide (kv.1 = k)) = kts.any (fun kv => decide (kv.1 = k)) := by
    have : ∀ (l : List κ), (l.any fun x => decide (x = k)) = (l.any fun x => decide (x = k)) := fun _ => rfl
    have h1 : kvs.any (fun kv => decide (kv.1 = k)) = (kvs.map (·.1)).any (fun x => decide (x = k)) := by rw [List.any_map]; rfl
    have h2 : kts.any (fun kv => decide (kv.1 = k)) = (kts.map (·.1)).any (fun x => decide (x = k)) := by rw [List.any_map]; rfl
    rw [h1, h2, e]
  unfold putL putT'
  rw [hany]
  split
  · have go : ∀ (kvs : List (κ × Va)) (kts : List (κ × Tr)), kvs.map (·.1) = kts.map (·.1) → Rds P h (kvs.map (·.2)) (kts.map (·.2)) →
        (kvs.map fun kv => if kv.1 = k then (kv.1, a) else kv).map (·.1) = (kts.map fun kv => if kv.1 = k then (kv.1, t) else kv).map (·.1) ∧ Rds P h ((kvs.map fun kv => if kv.1 = k then (kv.1, a) else kv).map (·.2)) ((kts.map fun kv => if kv.1 = k then (kv.1, t) else kv).map (·.2)) := by
      intro kvs
      induction kvs with
      | nil =>
        intro kts e r
        cases kts with
        | nil => exact ⟨rfl, .nil⟩
        | cons _ _ => cases e
      | cons kv kvs ih =>
        intro kts e r
        cases kts with
        | nil => cases e
        | cons kt kts =>
          obtain ⟨k1, v⟩ := kv
          obtain ⟨k2, u⟩ := kt
          have e : k1 :: kvs.map (·.1) = k2 :: kts.map (·.1) := e
          injection e with e1 e2
          subst e1
          cases r with
          | cons b r =>
            obtain ⟨i1, i2⟩ := ih kts e2 r
            simp only [List.map_cons]
            by_cases hk : k1 = k
            · simp only [hk, if_true]
              exact ⟨by rw [i1], .cons ra i2⟩
            · simp only [hk, if_false]
              exact ⟨by rw [i1], .cons b i2⟩
    exact go kvs kts e r
  · rw [List.map_append, List.map_append, List.map_append, List.map_append, e]
    exact ⟨rfl, r.app (.cons ra .nil)⟩
theorem pairs_ok : ∀ {vs : List Va} {ts : List Tr} {kts : List (Key × Tr)}, Rds P h vs ts → pairsT ts = some kts → ∃ kvs, pairsOf h vs = some kvs ∧ kvs.map (·.1) = kts.map (·.1) ∧ Rds P h (kvs.map (·.2)) (kts.map (·.2))
  | _, _, _, .nil, e => by cases e; exact ⟨[], rfl, rfl, .nil⟩
  | _, _, kts, .cons a r, e => by
    unfold pairsT at e
    split at e
    · rename_i z; cases z
    · rename_i k v r' z
      cases z
      cases a with
      | tup p q rr =>
        cases rr with
        | cons rk rr =>
          cases rr with
          | cons rv rr =>
            cases rr
            split at e
            · rename_i kk hk
              split at e
              · rename_i kts' ek
                cases e
                obtain ⟨kvs, h1, h2, h3⟩ := pairs_ok r ek
                refine ⟨(kk, _) :: kvs, ?_, by rw [List.map_cons, List.map_cons, h2], .cons rv h3⟩
                unfold pairsOf
                simp only [q]
                rw [keyT_eq rk.top, hk, h1]
              · cases e
            · cases e
    · cases e
theorem merge_ok {kvs : List (Key × Va)} {kts : List (Key × Tr)} (e : kvs.map (·.1) = kts.map (·.1)) (r : Rds P h (kvs.map (·.2)) (kts.map (·.2))) : (mergeA kvs).map (·.1) = (mergeT kts).map (·.1) ∧ Rds P h ((mergeA kvs).map (·.2)) ((mergeT kts).map (·.2)) := by
  have go : ∀ (kvs : List (Key × Va)) (kts : List (Key × Tr)) (acc : List (Key × Va)) (act : List (Key × Tr)), kvs.map (·.1) = kts.map (·.1) → Rds P h (kvs.map (·.2)) (kts.map (·.2)) → acc.map (·.1) = act.map (·.1) → Rds P h (acc.map (·.2)) (act.map (·.2)) →
      (kvs.foldl (fun acc kv => putL acc kv.1 kv.2) acc).map (·.1) = (kts.foldl (fun acc kv => putT' acc kv.1 kv.2) act).map (·.1) ∧ Rds P h ((kvs.foldl (fun acc kv => putL acc kv.1 kv.2) acc).map (·.2)) ((kts.foldl (fun acc kv => putT' acc kv.1 kv.2) act).map (·.2)) := by
    intro kvs
    induction kvs with
    | nil =>
      intro kts acc act e r e2 r2
      cases kts with
      | nil => exact ⟨e2, r2⟩
      | cons _ _ => cases e
    | cons kv kvs ih =>
      intro kts acc act e r e2 r2
      cases kts with
      | nil => cases e
      | cons kt kts =>
        obtain ⟨k1, v⟩ := kv
        obtain ⟨k2, u⟩ := kt
        have e : k1 :: kvs.map (·.1) = k2 :: kts.map (·.1) := e
        injection e with e3 e4
        subst e3
        cases r with
        | cons b r =>
          obtain ⟨i1, i2⟩ := putT_rel (k := k1) b e2 r2
          exact ih kts _ _ e4 r i1 i2
  exact go kvs kts [] [] e r rfl .nil
theorem keyTr_rel (k : Key) : Rd' P h (kvA k) (keyTr k) := by cases k <;> first | exact .int _ | exact .str _
theorem keysRel : ∀ {kvs : List (Key × Va)} {kts : List (Key × Tr)}, kvs.map (·.1) = kts.map (·.1) → Rds P h (kvs.map fun kv => kvA kv.1) (kts.map fun kv => keyTr kv.1)
  | [], [], _ => .nil
  | [], _ :: _, e => by cases e
  | _ :: _, [], e => by cases e
  | (k1, v) :: kvs, (k2, t) :: kts, e => by
    have e : k1 :: kvs.map (·.1) = k2 :: kts.map (·.1) := e
    injection e with e1 e2
    subst e1
    exact .cons (keyTr_rel k1) (keysRel e2)
theorem intKeys_eq {α β : Type} : ∀ {kvs : List (Key × α)} {kts : List (Key × β)}, kvs.map (·.1) = kts.map (·.1) → intKeys kvs = intKeys kts
  | [], [], _ => rfl
  | [], _ :: _, e => by cases e
  | _ :: _, [], e => by cases e
  | (k1, v) :: kvs, (k2, t) :: kts, e => by
    have e : k1 :: kvs.map (·.1) = k2 :: kts.map (·.1) := e
    injection e with e1 e2
    subst e1
    cases k1 with
    | inl i => unfold intKeys; rw [intKeys_eq e2]
    | inr x => rfl
theorem sort_rel {vs : List Va} {ts : List Tr} {ds : List PyData} (r : Rds P h vs ts) : Rds P h (sortL vs ds) (sortL ts ds) := by
  have to : ∀ {vs : List Va} {ts : List Tr}, Rds P h vs ts → Paired (Rd' P h) vs ts := by
    intro vs
    induction vs with
    | nil => intro ts r; cases r; exact .nil
    | cons v vs ih => intro ts r; cases r with | cons a r => exact .cons a (ih r)
  have back : ∀ {vs : List Va} {ts : List Tr}, Paired (Rd' P h) vs ts → Rds P h vs ts := by
    intro vs ts r
    induction r with
    | nil => exact .nil
    | cons a r ih => exact .cons a ih
  exact back (sortL_rel (to r))
theorem mm_ok {mx : Bool} {l : Nat} {vs : List Va} {ts : List Tr} {u : Tr} (q : h[l]? = some (.lst vs) ∨ h[l]? = some (.tup vs)) (r : Rds P h vs ts) (e : mmL mx ts = some u) : ResOk P h (mmV mx [.ref l] h) u := by
  unfold mmL at e
  have ed : datL (dat DD h) vs = datG (datT DD) ts := datG_eq (fun v t r => datD_eq r.top) r
  split at e
  · rename_i d ds ed2
    split at e
    · rename_i hz
      rcases q with q | q <;>
      · unfold mmV
        simp only [q, ed, ed2]
        rw [if_pos hz]
        exact res_ok e
    · cases e
  · cases e
theorem bi_ok {ns : List Int} (b : Bi) {as : List Va} {ts : List Tr} {u : Tr} (r : RTops P h as ts) (e : biT ns b ts = some u) : ResOk P h (biF ns b as h) u := by
  cases b
  · have e : lenT ts = some u := e
    unfold lenT at e
    split at e
    · obtain ⟨v, rfl, rv⟩ := r.one
      cases rv
      split at e
      · rename_i hz; cases e
        rw [show biF ns Bi.len = lenV from rfl]
        unfold lenV; simp only []; rw [if_pos hz]; exact .pick (.int _)
      · cases e
    · obtain ⟨v, rfl, l, xs, rfl, q, r⟩ := r.one
      cases e
      rw [show biF ns Bi.len = lenV from rfl]
      unfold lenV; simp only [q, r.len]; exact .pick (.int _)
    · obtain ⟨v, rfl, l, xs, rfl, q, r⟩ := r.one
      cases e
      rw [show biF ns Bi.len = lenV from rfl]
      unfold lenV; simp only [q, r.len]; exact .pick (.int _)
    · obtain ⟨v, rfl, l, xs, rfl, q, e1, r⟩ := r.one
      cases e
      rw [show biF ns Bi.len = lenV from rfl]
      unfold lenV; simp only [q, keysLen e1]; exact .pick (.int _)
    · obtain ⟨v, rfl, l, xs, rfl, q, e1, r⟩ := r.one
      cases e
      rw [show biF ns Bi.len = lenV from rfl]
      unfold lenV; simp only [q, keysLen e1]; exact .pick (.int _)
    · cases e
  · have e : absT ts = some u := e
    unfold absT at e
    split at e
    · obtain ⟨v, rfl, rv⟩ := r.one
      cases rv; cases e; exact .pick (.int _)
    · cases e
  · have e : intT ts = some u := e
    unfold intT at e
    split at e
    · obtain ⟨v, rfl, rv⟩ := r.one
      cases rv; cases e; exact .pick (.int _)
    · obtain ⟨v, rfl, rv⟩ := r.one
      cases rv; cases e; exact .pick (.int _)
    · cases e
  · have e : tupleT ts = some u := e
    unfold tupleT at e
    split at e
    · obtain ⟨v, rfl, l, xs, rfl, q, r⟩ := r.one
      cases e
      rw [show biF ns Bi.tuple = tupleV from rfl]
      unfold tupleV; simp only [q]; exact new_tup r
    · obtain ⟨v, rfl, l, xs, rfl, q, r⟩ := r.one
      cases e
      rw [show biF ns Bi.tuple = tupleV from rfl]
      unfold tupleV; simp only [q]; exact new_tup r
    · cases e
  · have e : listT ns ts = some u := e
    unfold listT at e
    split at e
    · obtain ⟨v, rfl, rv⟩ := r.one
      cases rv; cases e
      exact new_lst Rds.ints
    · obtain ⟨v, rfl, l, xs, rfl, q, r⟩ := r.one
      cases e
      rw [show biF ns Bi.list = listV ns from rfl]
      unfold listV; simp only [q]; exact new_lst r
    · obtain ⟨v, rfl, l, xs, rfl, q, r⟩ := r.one
      cases e
      rw [show biF ns Bi.list = listV ns from rfl]
      unfold listV; simp only [q]; exact new_lst r
    · obtain ⟨v, rfl, l, xs, rfl, q, e1, r⟩ := r.one
      cases e
      rw [show biF ns Bi.list = listV ns from rfl]
      unfold listV; simp only [q]; exact new_lst (keysRel e1)
    · cases e
  · have e : sumT ts = some u := e
    unfold sumT at e
    split at e
    · obtain ⟨v, rfl, l, xs, rfl, q, r⟩ := r.one
      split at e
      · rename_i ns' en
        cases e
        rw [show biF ns Bi.sum = sumV from rfl]
        unfold sumV; simp only [q, intsT_eq r en]; exact .pick (.int _)
      · cases e
    · cases e
  · have e : anyT ts = some u := e
    unfold anyT at e
    split at e
    · obtain ⟨v, rfl, l, xs, rfl, q, r⟩ := r.one
      split at e
      · rename_i ns' en
        cases e
        rw [show biF ns Bi.any = anyV from rfl]
        unfold anyV; simp only [q, blsT_eq r en]; exact .pick (.bl _)
      · cases e
    · cases e
  · have e : allT ts = some u := e
    unfold allT at e
    split at e
    · obtain ⟨v, rfl, l, xs, rfl, q, r⟩ := r.one
      split at e
      · rename_i ns' en
        cases e
        rw [show biF ns Bi.all = allV from rfl]
        unfold allV; simp only [q, blsT_eq r en]; exact .pick (.bl _)
      · cases e
    · cases e
  · have e : mmT false ts = some u := e
    unfold mmT at e
    split at e
    · obtain ⟨v, w, rfl, rv, rw_⟩ := r.two
      cases rv; cases rw_; cases e; exact .pick (.int _)
    · obtain ⟨v, rfl, l, xs, rfl, q, r⟩ := r.one
      exact mm_ok (.inl q) r e
    · obtain ⟨v, rfl, l, xs, rfl, q, r⟩ := r.one
      exact mm_ok (.inr q) r e
    · cases e
  · have e : mmT true ts = some u := e
    unfold mmT at e
    split at e
    · obtain ⟨v, w, rfl, rv, rw_⟩ := r.two
      cases rv; cases rw_; cases e; exact .pick (.int _)
    · obtain ⟨v, rfl, l, xs, rfl, q, r⟩ := r.one
      exact mm_ok (.inl q) r e
    · obtain ⟨v, rfl, l, xs, rfl, q, r⟩ := r.one
      exact mm_ok (.inr q) r e
    · cases e
  · have e : sortedT ts = some u := e
    unfold sortedT at e
    split at e
    · obtain ⟨v, rfl, l, xs, rfl, q, r⟩ := r.one
      have ed : datL (dat DD h) xs = datG (datT DD) _ := datG_eq (fun v t r => datD_eq r.top) r
      split at e
      · rename_i ds ed2
        split at e
        · rename_i hz
          cases e
          rw [show biF ns Bi.sorted = sortedV from rfl]
          unfold sortedV; simp only [q, ed, ed2]; rw [if_pos hz]; exact new_lst (sort_rel r)
        · cases e
      · cases e
    · obtain ⟨v, rfl, l, xs, rfl, q, e1, r⟩ := r.one
      split at e
      · rename_i ks ek
        split at e
        · rename_i hz
          cases e
          rw [show biF ns Bi.sorted = sortedV from rfl]
          unfold sortedV; simp only [q]; rw [intKeys_eq e1, ek]; simp only []; rw [if_pos hz]; exact new_lst Rds.ints
        · cases e
      · cases e
    · cases e
  · have e : reprT ts = some u := e
    unfold reprT at e
    split at e
    · obtain ⟨v, rfl, rv⟩ := r.one
      have ed := datD_eq rv
      obtain ⟨l, xs, rfl, q, r⟩ := rv
      split at e
      · rename_i d ed2
        split at e
        · rename_i hz
          cases e
          rw [show biF ns Bi.repr = reprV from rfl]
          unfold reprV; simp only [ed, ed2]; rw [if_pos hz]; exact .pick (.str _)
        · cases e
      · cases e
    · obtain ⟨v, rfl, rv⟩ := r.one
      have ed := datD_eq rv
      obtain ⟨l, xs, rfl, q, r⟩ := rv
      split at e
      · rename_i d ed2
        split at e
        · rename_i hz
          cases e
          rw [show biF ns Bi.repr = reprV from rfl]
          unfold reprV; simp only [ed, ed2]; rw [if_pos hz]; exact .pick (.str _)
        · cases e
      · cases e
    · cases e
  · have e : strT ts = some u := e
    unfold strT at e
    split at e
    · obtain ⟨v, rfl, rv⟩ := r.one
      cases rv
      split at e
      · rename_i hz; cases e
        rw [show biF ns Bi.str = strV from rfl]
        unfold strV; simp only []; rw [if_pos hz]; exact .pick (.str _)
      · cases e
    · cases e
  · have e : dictT ts = some u := e
    unfold dictT at e
    split at e
    · obtain ⟨v, rfl, l, xs, rfl, q, r⟩ := r.one
      split at e
      · rename_i kts ek
        cases e
        obtain ⟨kvs, h1, h2, h3⟩ := pairs_ok r ek
        obtain ⟨m1, m2⟩ := merge_ok h2 h3
        rw [show biF ns Bi.dict = dictV from rfl]
        unfold dictV; simp only [q, h1]; exact new_dK m1 m2
      · cases e
    · cases e
end HA

namespace HA
open PySem PySem.Spec PyProof.Rows L2

/-! ### layer B: the stream -/
structure Strm where
  rest : List Int
  cur : Int
  cnt : Int
  mix : Int
/-- numbers are taken in while there are some and none is at hand -/
def feed : List Int → Int → Int → List Int × Int × Int
  | [], c, m => ([], c, m)
  | x :: r, c, m => if c = 0 then
      feed r (if (if x < 0 then -x else x) ≥ 1000000000000000000 then (if x < 0 then -x else x) else 0) ((m * 6151 + (if x < 0 then -x else x) + 7) % 2147483629)
    else (x :: r, c, m)
abbrev CNT : Int := 1000000000000
def drawS (s : Strm) (m : Int) : Option (Int × Strm) := if pin 1073741823 m = true ∧ 0 ≤ s.cnt ∧ s.cnt < CNT ∧ 0 ≤ s.mix ∧ s.mix < 2147483648 ∧ s.rest.length ≤ 64 then
    let f := feed s.rest s.cur s.mix
    if 0 < f.2.1 then some (f.2.1 % m, ⟨f.1, f.2.1 / m, s.cnt + 1, f.2.2⟩)
    else some (((((f.2.2 + 8191 * (s.cnt + 1) + 50021) ^ 5 % 2147483587) * 40009 + 20011 * (s.cnt + 1) + 31) ^ 3 % 1000000009) % m, ⟨f.1, f.2.1, s.cnt + 1, f.2.2⟩)
  else none

/-! ### states, values -/
inductive Sb where
  | no
  | val (t : Tr) (own fr : Bool)
  | st
structure BS where
  sl : List Sb
  st : Strm
structure Lv where
  t : Tr
  fr : Bool
  uq : Bool
inductive Ar where
  | v (x : Lv)
  | s
inductive RB (α : Type) where
  | ok (a : α) (s : BS)
  | bad
def RB.bind {α β : Type} (r : RB α) (k : α → BS → RB β) : RB β := match r with
  | .ok a s => k a s
  | .bad => .bad
def liftB {α : Type} (o : Option α) (s : BS) : RB α := match o with
  | some a => .ok a s
  | none => .bad
/-- the result of a call -/
inductive RC where
  | ok (x : Lv) (s : Strm)
  | bad
structure Cb where
  ns : List Int
  sg : Option Nat
  call : Nat → List Ar → Strm → RC

/-- nothing in it is mutable but the top -/
def immE : Tr → Bool
  | .lst ts => immL ts
  | .tup ts => immL ts
  | .dK kvs => immL (kvs.map (·.2))
  | .dT kvs => immL (kvs.map (·.2))
  | _ => true
/-- the value of an operation: from parts of that freshness -/
def mkNew (t : Tr) (fr : Bool) : Lv := ⟨t, fr || immE t, mutT t⟩
def mkOld (t : Tr) (fr : Bool) : Lv := ⟨t, fr || imm t, false⟩

/-! ### who is changed: a slot is not, by that text -/
def isMutM : Mt → Bool
  | .append | .extend | .pop | .insert | .clear => true
  | _ => false
def isVar (i : Nat) : E → Bool
  | .var j => decide (i = j)
  | _ => false
mutual
def nmE (i : Nat) : E → Bool
  | .cst _ => true
  | .var _ => true
  | .bin _ a b => nmE i a && nmE i b
  | .neg a => nmE i a
  | .not a => nmE i a
  | .and a b => nmE i a && nmE i b
  | .or a b => nmE i a && nmE i b
  | .cmp _ a b => nmE i a && nmE i b
  | .chn _ _ a b c => nmE i a && (nmE i b && nmE i c)
  | .isN _ a => nmE i a
  | .ife a b c => nmE i a && (nmE i b && nmE i c)
  | .inst a _ => nmE i a
  | .call _ as => nmEs i as
  | .callk _ as ks _ => nmEs i as && nmEs i ks
  | .bi _ as => nmEs i as
  | .mth m o as => !(isMutM m && isVar i o) && (nmE i o && nmEs i as)
  | .idx a b => nmE i a && nmE i b
  | .slc a l u => nmE i a && (nmEs i l && nmEs i u)
  | .rev a => nmE i a
  | .lst as => nmEs i as
  | .tup as => nmEs i as
  | .dnew => true
  | .items a => nmE i a
  | .lrng as => nmEs i as
  | .comp it _ _ cs e => nmIt i it && (nmEs i cs && nmE i e)
def nmEs (i : Nat) : Es → Bool
  | .nil => true
  | .cons e r => nmE i e && nmEs i r
  | .star e r => nmE i e && nmEs i r
def nmIt (i : Nat) : It → Bool
  | .val e => nmE i e
  | .rng as => nmEs i as
  | .zip a b => nmE i a && nmE i b
  | .enum a => nmE i a
end
mutual
def nmS (i : Nat) : Sm → Bool
  | .asg _ e => nmE i e
  | .asgs ts e => nmE i e && ts.all fun t => match t with
    | .tg _ => true
    | .sub o j => !isVar i o && (nmE i o && nmE i j)
  | .par _ es => nmEs i es
  | .set o j e => !isVar i o && (nmE i o && (nmE i j && nmE i e))
  | .exp e => nmE i e
  | .ret e => nmE i e
  | .ife c a b => nmE i c && (nmSs i a && nmSs i b)
  | .for_ it _ b => nmIt i it && nmSs i b
  | .whl c b => nmE i c && nmSs i b
  | _ => true
def nmSs (i : Nat) : Ss → Bool
  | .nil => true
  | .cons s r => nmS i s && nmSs i r
end

/-! ### values -/
def vaT : Va → Option Tr
  | .non => some .non
  | .bl b => some (.bl b)
  | .int i => some (.int i)
  | .str x => some (.str x)
  | _ => none
/-- a variable that is looked at alone; any other part -/
def preT (a : E) (r : BS → RB Lv) (bs : BS) : RB (Nat ⊕ Lv) := match a with
  | .var i => match bs.sl[i]? with
    | some (.val _ _ _) => .ok (.inl i) bs
    | _ => .bad
  | _ => (r bs).bind fun x s => .ok (.inr x) s
/-- an argument: the stream, or a value that is kept -/
def preA (a : E) (r : BS → RB Lv) (bs : BS) : RB Ar := match a with
  | .var i => match bs.sl[i]? with
    | some .st => .ok .s bs
    | _ => (r bs).bind fun x s => .ok (.v x) s
  | _ => (r bs).bind fun x s => .ok (.v x) s
def finT (x : Nat ⊕ Lv) (bs : BS) : Option (Tr × Bool) := match x with
  | .inl i => match bs.sl[i]? with
    | some (.val t _ fr) => some (t, fr || imm t)
    | _ => none
  | .inr x => some (x.t, x.fr)
def finsT : List (Nat ⊕ Lv) → BS → Option (List Tr × Bool)
  | [], _ => some ([], true)
  | x :: r, bs => match finT x bs with
    | some (t, f) => match finsT r bs with
      | some (ts, g) => some (t :: ts, f && g)
      | none => none
    | none => none
def op1 (x : Nat ⊕ Lv) (bs : BS) (k : Tr → Bool → RB Lv) : RB Lv := match finT x bs with
  | some (t, f) => k t f
  | none => .bad
def newB (o : Option Tr) (f : Bool) (bs : BS) : RB Lv := match o with
  | some t => .ok (mkNew t f) bs
  | none => .bad
def oldB (o : Option Tr) (f : Bool) (bs : BS) : RB Lv := match o with
  | some t => .ok (mkOld t f) bs
  | none => .bad
def blB (o : Option Bool) (bs : BS) : RB Lv := match o with
  | some k => .ok ⟨.bl k, true, false⟩ bs
  | none => .bad
def truB (x : Nat ⊕ Lv) (bs : BS) : RB Bool := match finT x bs with
  | some (t, _) => liftB (truT t) bs
  | none => .bad
def isNonT : Tr → Bool
  | .non => true
  | _ => false
def tyT : Tr → Option Ty
  | .bl _ => some .bool
  | .int _ => some .int
  | .str _ => some .str
  | .lst _ => some .list
  | .tup _ => some .tuple
  | .dK _ => some .dict
  | .dT _ => some .dict
  | _ => none
def isTyT (t : Tr) (k : Ty) : Bool := match tyT t with
  | some j => decide (j = k) || (decide (j = .bool) && decide (k = .int))
  | none => false
def instT (ts : List Ty) : Tr → Option Bool
  | .scr => none
  | t => some (ts.any (isTyT t))
def kdT : Tr → Option Kd
  | .str _ => some .s
  | .lst _ => some .l
  | .dK _ => some .d
  | .dT _ => some .d
  | _ => none
/-- a method that changes its own list -/
def mutR : Mt → Tr → List Tr → Option (Tr × Tr)
  | .append, .lst xs, [y] => if xs.length < BIG then some (.lst (xs ++ [y]), .non) else none
  | .extend, .lst xs, [.lst ys] => if xs.length + ys.length ≤ BIG then some (.lst (xs ++ ys), .non) else none
  | .pop, .lst xs, [] => match xs[xs.length - 1]? with
    | some y => some (.lst xs.dropLast, y)
    | none => none
  | .pop, .lst xs, [.int i] => if nin 9223372036854775807 i = true then match seqIndex? i xs.length with
      | some k => match xs[k]? with
        | some y => some (.lst (xs.eraseIdx k), y)
        | none => none
      | none => none
    else none
  | .insert, .lst xs, [.int i, y] => if xs.length < BIG ∧ 0 ≤ i ∧ nin 9223372036854775807 i = true then some (.lst (xs.take i.toNat ++ [y] ++ xs.drop i.toNat), .non) else none
  | .clear, .lst _, [] => some (.lst [], .non)
  | _, _, _ => none
def strsT : List Tr → Option (List Str)
  | [] => some []
  | .str a :: r => match strsT r with
    | some l => some (a :: l)
    | none => none
  | _ :: _ => none
/-- a method that only looks -/
def lookR : Mt → Tr → List Tr → Option Tr
  | .index, .lst xs, [y] => match datT DD (.lst xs), datT DD y with
    | some (.list ds), some d => if SeqAt.shaped (.list ds) = true ∧ SeqAt.shaped d = true then match findIx d ds 0 with
        | some j => some (.int j)
        | none => none
      else none
    | _, _ => none
  | .index, .str a, [.str b] => match Builtin.Str.occurrences a b 0 a.length 1 with
    | i :: _ => some (.int (i : Nat))
    | [] => none
  | .count, .lst xs, [.int k] => match intsT xs with
    | some ns => some (.int (ns.count k : Nat))
    | none => none
  | .get, .dK kvs, [y] => match dLookT (.dK kvs) y with
    | some o => some (o.getD .non)
    | none => none
  | .get, .dT kvs, [y] => match dLookT (.dT kvs) y with
    | some o => some (o.getD .non)
    | none => none
  | .get, .dK kvs, [y, d] => match dLookT (.dK kvs) y with
    | some o => some (o.getD d)
    | none => none
  | .get, .dT kvs, [y, d] => match dLookT (.dT kvs) y with
    | some o => some (o.getD d)
    | none => none
  | .join, .str a, [.lst xs] => match strsT xs with
    | some ss => if (ss.map (·.length)).sum + ss.length * a.length ≤ BIG then some (.str (Txt.join a ss)) else none
    | none => none
  | .join, .str a, [.tup xs] => match strsT xs with
    | some ss => if (ss.map (·.length)).sum + ss.length * a.length ≤ BIG then some (.str (Txt.join a ss)) else none
    | none => none
  | .split, .str a, [.str b] => if (b.length == 0) = false ∧ a.length + 2 ≤ BIG then some (.lst ((Txt.split a b).map .str)) else none
  | _, _, _ => none
def lvsT (l : List Lv) : List Tr := l.map (·.t)
def lvsF (l : List Lv) : Bool := l.all (·.fr)
/-- x[i] = v on one's own x -/
def setT (o i v : Tr) : Option Tr := match o with
  | .lst xs => match i with
    | .int k => match ixN xs.length k with
      | some j => some (.lst (xs.set j v))
      | none => none
    | _ => none
  | .dK kvs => if kvs.length < BIG then match keyT i with
    | some k => some (.dK (putT' kvs k v))
    | none => match i with
      | .tup xs => match kvs, keysT xs with
        | [], some ks => some (.dT [(ks, v)])
        | _, _ => none
      | _ => none
    else none
  | .dT kvs => if kvs.length < BIG then match i with
    | .tup xs => match keysT xs with
      | some ks => some (.dT (putT' kvs ks v))
      | none => none
    | _ => none
    else none
  | _ => none

/-! ### what is walked -/
inductive Yb where
  | one (x : Lv)
  | two (x y : Lv)
def ySeq (t : Tr) (fr : Bool) : Option (List Lv) := match t with
  | .lst xs => some (xs.map fun x => mkOld x fr)
  | .tup xs => some (xs.map fun x => mkOld x fr)
  | _ => none
def enumB : Nat → List Lv → List Yb
  | _, [] => []
  | n, x :: xs => .two ⟨.int n, true, false⟩ x :: enumB (n + 1) xs
def sameT : Tr → Tr → Bool
  | .lst _, .lst _ => true
  | .tup _, .tup _ => true
  | _, _ => false
def isLsT : Tr → Bool
  | .lst _ => true
  | _ => false
def rngT (as : List Tr) : Option (Int × Int) := match as with
  | [.int j] => if nin 4611686018427387903 j = true then some (0, j) else none
  | [.int i, .int j] => if nin 4611686018427387903 i = true ∧ nin 4611686018427387903 j = true then some (i, j) else none
  | _ => none
/-- a source of a loop: looked at if the slot is not changed within, else given away -/
def srcT (a : E) (r : BS → RB Lv) (nm : Nat → Bool) (bs : BS) : RB (Nat ⊕ Lv) := match a with
  | .var i => if nm i = true then preT a r bs else (r bs).bind fun x s => .ok (.inr x) s
  | _ => (r bs).bind fun x s => .ok (.inr x) s
def spreadB (t : Tg) (x : Lv) : Option (List Lv) := match t with
  | .nm _ => some [x]
  | _ => match x.t with
    | .tup xs => some (xs.map fun y => mkOld y x.fr)
    | _ => none
def tgB : Tg → List Lv → List Sb → Option (List Sb)
  | .nm i, [x], σ => some (σ.set i (.val x.t x.uq x.fr))
  | .te, [], σ => some σ
  | .tp a r, x :: xs, σ => match spreadB a x with
    | some ys => match tgB a ys σ with
      | some σ' => tgB r xs σ'
      | none => none
    | none => none
  | _, _, _ => none
def tgYB (t : Tg) (y : Yb) (σ : List Sb) : Option (List Sb) := match y with
  | .one x => match spreadB t x with
    | some xs => tgB t xs σ
    | none => none
  | .two x y => match t with
    | .nm _ => none
    | t => tgB t [x, y] σ
def wipeB (σ : List Sb) : List Nat → List Sb
  | [] => σ
  | v :: vs => (wipeB σ vs).set v .no
/-- behind a comprehension: its own names as they were -/
def backB (σ0 σ1 : List Sb) : List Nat → List Sb
  | [] => σ1
  | v :: vs => (backB σ0 σ1 vs).set v (match σ0[v]? with
    | some (.val t own fr) => .val t own fr
    | _ => .no)
def compGoB (body : Yb → BS → RB (Option Lv)) : List Yb → List Tr → Bool → BS → RB Lv
  | [], acc, f, bs => .ok ⟨.lst acc, f, true⟩ bs
  | y :: ys, acc, f, bs => (body y bs).bind fun r bs1 => match r with
    | none => compGoB body ys acc f bs1
    | some v => if acc.length < BIG then compGoB body ys (acc ++ [v.t]) (f && v.fr) bs1 else .bad
def compBodyB (own : List Nat) (tg : Tg) (cnd : BS → RB Bool) (elt : BS → RB Lv) (y : Yb) (bs : BS) : RB (Option Lv) :=
  if (tgSlots tg).all (fun i => decide (i ∈ own)) = true then match tgYB tg y (wipeB bs.sl own) with
    | some σ1 => (cnd ⟨σ1, bs.st⟩).bind fun b bs1 => if b = true then (elt bs1).bind fun v bs2 => .ok (some v) ⟨backB bs.sl bs2.sl own, bs2.st⟩ else .ok none ⟨backB bs.sl bs1.sl own, bs1.st⟩
    | none => .bad
  else .bad
def oneIntT (vs : List Tr) : Option (Option Int) := match vs with
  | [] => some none
  | [.int i] => some (some i)
  | _ => none
def RC.to (r : RC) (bs : BS) : RB Lv := match r with
  | .ok x s => .ok x ⟨bs.sl, s⟩
  | .bad => .bad

mutual
def bev (C : Cb) : E → BS → RB Lv
  | .cst v, bs => match vaT v with
    | some t => .ok ⟨t, true, false⟩ bs
    | none => .bad
  | .var i, bs => match bs.sl[i]? with
    | some (.val t _ fr) => .ok (mkOld t fr) ⟨bs.sl.set i (.val t false fr), bs.st⟩
    | _ => .bad
  | .bin o a b, bs => (preT a (bev C a) bs).bind fun x s1 => (preT b (bev C b) s1).bind fun y s2 => op1 x s2 fun t f => op1 y s2 fun u g => newB (binT o t u) (f && g) s2
  | .neg a, bs => (preT a (bev C a) bs).bind fun x s1 => op1 x s1 fun t f => newB (negT t) true s1
  | .not a, bs => (preT a (bev C a) bs).bind fun x s1 => (truB x s1).bind fun k s2 => .ok ⟨.bl (!k), true, false⟩ s2
  | .and a b, bs => (bev C a bs).bind fun x s1 => match truT x.t with
    | some true => bev C b s1
    | some false => .ok x s1
    | none => .bad
  | .or a b, bs => (bev C a bs).bind fun x s1 => match truT x.t with
    | some true => .ok x s1
    | some false => bev C b s1
    | none => .bad
  | .cmp c a b, bs => (preT a (bev C a) bs).bind fun x s1 => (preT b (bev C b) s1).bind fun y s2 => op1 x s2 fun t _ => op1 y s2 fun u _ => blB (cmpT c t u) s2
  | .chn c d a b e, bs => (preT a (bev C a) bs).bind fun x s1 => (preT b (bev C b) s1).bind fun y s2 => op1 x s2 fun t _ => op1 y s2 fun u _ => match cmpT c t u with
    | some true => (preT e (bev C e) s2).bind fun z s3 => op1 y s3 fun u _ => op1 z s3 fun w _ => blB (cmpT d u w) s3
    | some false => .ok ⟨.bl false, true, false⟩ s2
    | none => .bad
  | .isN ng a, bs => (preT a (bev C a) bs).bind fun x s1 => op1 x s1 fun t _ => .ok ⟨.bl (ng ^^ isNonT t), true, false⟩ s1
  | .ife t a b, bs => (preT t (bev C t) bs).bind fun x s1 => (truB x s1).bind fun k s2 => if k = true then bev C a s2 else bev C b s2
  | .inst a ts, bs => (preT a (bev C a) bs).bind fun x s1 => op1 x s1 fun t _ => blB (instT ts t) s1
  | .call g as, bs => (bevA C as bs).bind fun xs s1 => (C.call g xs s1.st).to s1
  | .callk g as ks pm, bs => (bevA C as bs).bind fun xs s1 => (bevA C ks s1).bind fun ys s2 => match permA (xs ++ ys) pm with
    | some us => (C.call g us s2.st).to s2
    | none => .bad
  | .bi b as, bs => (bevT C as bs).bind fun xs s1 => match finsT xs s1 with
    | some (ts, f) => newB (biT C.ns b ts) f s1
    | none => .bad
  | .mth m o as, bs => if isMutM m = true then match o with
      | .var i => match bs.sl[i]? with
        | some (.val t0 _ _) => if kdT t0 = some .l then (bevs C as bs).bind fun xs s1 => match s1.sl[i]? with
            | some (.val t true fr) => match mutR m t (lvsT xs) with
              | some (t', r) => .ok (mkOld r fr) ⟨s1.sl.set i (.val t' true (fr && lvsF xs)), s1.st⟩
              | none => .bad
            | _ => .bad
          else .bad
        | _ => .bad
      | _ => .bad
    else (preT o (bev C o) bs).bind fun x s1 => op1 x s1 fun t0 _ => match kdT t0 with
      | some k => if mtOk m k = true then (if m = .get then (bevs C as s1).bind fun xs s => .ok (xs.map .inr) s else bevT C as s1).bind fun ys s2 => op1 x s2 fun t f => match finsT ys s2 with
          | some (us, g) => if kdT t = some k then oldB (lookR m t us) (f && g) s2 else .bad
          | none => .bad
        else .bad
      | none => .bad
  | .idx a i, bs => (preT a (bev C a) bs).bind fun x s1 => (preT i (bev C i) s1).bind fun y s2 => op1 x s2 fun t f => op1 y s2 fun u _ => oldB (idxT t u) f s2
  | .slc a lo hi, bs => (preT a (bev C a) bs).bind fun x s1 => (bevT C lo s1).bind fun l s2 => match finsT l s2 with
    | some (lt, _) => match oneIntT lt with
      | some l => (bevT C hi s2).bind fun u s3 => match finsT u s3 with
        | some (ut, _) => match oneIntT ut with
          | some u => op1 x s3 fun t f => newB (slcT t l u) f s3
          | none => .bad
        | none => .bad
      | none => .bad
    | none => .bad
  | .rev a, bs => (preT a (bev C a) bs).bind fun x s1 => op1 x s1 fun t f => newB (revT t) f s1
  | .lst as, bs => (bevs C as bs).bind fun xs s1 => if xs.length ≤ BIG then .ok (mkNew (.lst (lvsT xs)) (lvsF xs)) s1 else .bad
  | .tup as, bs => (bevs C as bs).bind fun xs s1 => if xs.length ≤ BIG then .ok (mkNew (.tup (lvsT xs)) (lvsF xs)) s1 else .bad
  | .dnew, bs => .ok ⟨.dK [], true, true⟩ bs
  | .items a, bs => (preT a (bev C a) bs).bind fun x s1 => op1 x s1 fun t f => match t with
    | .dK kvs => .ok (mkNew (.lst (kvs.map fun p => .tup [keyTr p.1, p.2])) f) s1
    | _ => .bad
  | .lrng as, bs => (bevT C as bs).bind fun xs s1 => match finsT xs s1 with
    | some (ts, _) => match rngT ts with
      | some (i, j) => if (j - i).toNat ≤ BIG then .ok ⟨.lst ((rngL i j).map .int), true, true⟩ s1 else .bad
      | none => .bad
    | none => .bad
  | .comp it own tg cs e, bs => (bevIt C (fun i => nmEs i cs && nmE i e) it bs).bind fun ys s1 =>
      compGoB (compBodyB own tg (match cs with
        | .nil => fun s => .ok true s
        | .cons c _ => fun s => (preT c (bev C c) s).bind fun x s1 => truB x s1
        | .star _ _ => fun _ => .bad) (bev C e)) ys [] true s1
/-- values that are kept -/
def bevs (C : Cb) : Es → BS → RB (List Lv)
  | .nil, bs => .ok [] bs
  | .cons e r, bs => (bev C e bs).bind fun x s1 => (bevs C r s1).bind fun xs s2 => .ok (x :: xs) s2
  | .star e r, bs => (bev C e bs).bind fun x s1 => match ySeq x.t x.fr with
    | some ys => (bevs C r s1).bind fun xs s2 => .ok (ys ++ xs) s2
    | none => .bad
/-- values that are looked at -/
def bevT (C : Cb) : Es → BS → RB (List (Nat ⊕ Lv))
  | .nil, bs => .ok [] bs
  | .cons e r, bs => (preT e (bev C e) bs).bind fun x s1 => (bevT C r s1).bind fun xs s2 => .ok (x :: xs) s2
  | .star _ _, _ => .bad
/-- arguments -/
def bevA (C : Cb) : Es → BS → RB (List Ar)
  | .nil, bs => .ok [] bs
  | .cons e r, bs => (preA e (bev C e) bs).bind fun x s1 => (bevA C r s1).bind fun xs s2 => .ok (x :: xs) s2
  | .star _ _, _ => .bad
def bevIt (C : Cb) (nm : Nat → Bool) : It → BS → RB (List Yb)
  | .val e, bs => (srcT e (bev C e) nm bs).bind fun x s1 => match finT x s1 with
    | some (t, f) => match ySeq t f with
      | some xs => .ok (xs.map .one) s1
      | none => .bad
    | none => .bad
  | .rng as, bs => (bevT C as bs).bind fun xs s1 => match finsT xs s1 with
    | some (ts, _) => match rngT ts with
      | some (i, j) => .ok ((rngL i j).map fun k => .one ⟨.int k, true, false⟩) s1
      | none => .bad
    | none => .bad
  | .zip a b, bs => (srcT a (bev C a) nm bs).bind fun x s1 => (srcT b (bev C b) nm s1).bind fun y s2 => match finT x s2, finT y s2 with
    | some (t, f), some (u, g) => if sameT t u = true then match ySeq t f, ySeq u g with
        | some xs, some ys => .ok ((xs.zip ys).map fun p => .two p.1 p.2) s2
        | _, _ => .bad
      else .bad
    | _, _ => .bad
  | .enum a, bs => (srcT a (bev C a) nm bs).bind fun x s1 => match finT x s1 with
    | some (t, f) => match ySeq t f with
      | some xs => .ok (enumB 0 xs) s1
      | none => .bad
    | none => .bad
end
end HA

namespace HA
open PySem PySem.Spec PyProof.Rows L2

/-! ### layer B: statements -/
inductive BX where
  | nx (s : BS)
  | rt (v : Lv) (st : Strm)
  | bk (s : BS)
  | ct (s : BS)
  | bad
def BX.seq (r : BX) (k : BS → BX) : BX := match r with
  | .nx s => k s
  | r => r
def RB.st {α : Type} (r : RB α) (k : α → BS → BX) : BX := match r with
  | .ok a s => k a s
  | .bad => .bad
def nxB (o : Option (List Sb)) (st : Strm) : BX := match o with
  | some σ => .nx ⟨σ, st⟩
  | none => .bad
def setAllB : List Nat → List Lv → List Sb → Option (List Sb)
  | [], [], σ => some σ
  | i :: is, v :: vs, σ => setAllB is vs (σ.set i (.val v.t v.uq v.fr))
  | _, _, _ => none
/-- the stored values of a tuple that is taken apart: nothing there is one's own -/
def storeB (f : E → BS → RB (Nat ⊕ Lv)) (o i : E) (x : Lv) (bs : BS) (k : BS → BX) : BX := match o with
  | .var j => (f i bs).st fun y s2 => match s2.sl[j]? with
    | some (.val t true fr) => match finT y s2 with
      | some (u, _) => match setT t u x.t with
        | some t' => k ⟨s2.sl.set j (.val t' true (fr && x.fr)), s2.st⟩
        | none => .bad
      | none => .bad
    | _ => .bad
  | _ => .bad
def asgGoB (f : E → BS → RB (Nat ⊕ Lv)) : List At → List Lv → BS → BX
  | [], [], bs => .nx bs
  | .tg t :: r, x :: xs, bs => match tgYB t (.one x) bs.sl with
    | some σ => asgGoB f r xs ⟨σ, bs.st⟩
    | none => .bad
  | .sub o i :: r, x :: xs, bs => if x.uq = true then .bad else storeB f o i x bs fun s => asgGoB f r xs s
  | _, _, _ => .bad
def turnB (r : BX) (go : BS → BX) : BX := match r with
  | .nx s => go s
  | .ct s => go s
  | .bk s => .nx s
  | r => r
def forGoB (tg : Tg) (body : BS → BX) : List Yb → BS → BX
  | [], bs => .nx bs
  | y :: ys, bs => match tgYB tg y bs.sl with
    | some σ => turnB (body ⟨σ, bs.st⟩) (forGoB tg body ys)
    | none => .bad
def whlGoB (t : BS → RB Bool) (body : BS → BX) : Nat → BS → BX
  | 0, _ => .bad
  | n + 1, bs => (t bs).st fun k s1 => if k = true then turnB (body s1) (whlGoB t body n) else .nx s1
def btst (C : Cb) (c : E) (bs : BS) : RB Bool := (preT c (bev C c) bs).bind fun x s1 => truB x s1
/-- the old streams are dead -/
def noSt (σ : List Sb) : List Sb := σ.map fun s => match s with
  | .st => .no
  | s => s
def streamOf (ns : List Int) : Tr → Option Strm
  | .scr => some ⟨ns, 0, 0, 19⟩
  | .lst xs => match intsT xs with
    | some l => some ⟨l, 0, 0, 19⟩
    | none => none
  | _ => none
mutual
def bex (C : Cb) : Sm → BS → BX
  | .asg tg e, bs => match tg, e with
    | .nm i, .call g as => if C.sg = some g then (bevT C as bs).st fun xs s1 => match finsT xs s1 with
          | some ([t], _) => match streamOf C.ns t with
            | some s => .nx ⟨(noSt s1.sl).set i .st, s⟩
            | none => .bad
          | _ => .bad
        else (bev C (.call g as) bs).st fun v s1 => nxB (tgYB (.nm i) (.one v) s1.sl) s1.st
    | tg, e => (bev C e bs).st fun v s1 => nxB (tgYB tg (.one v) s1.sl) s1.st
  | .asgs ts e, bs => match e with
    | .tup es => (bevs C es bs).st fun xs s1 => if xs.length ≤ BIG ∧ xs.length = ts.length then asgGoB (fun e => preT e (bev C e)) ts xs s1 else .bad
    | _ => .bad
  | .par is es, bs => (bevs C es bs).st fun vs s1 => nxB (setAllB is vs s1.sl) s1.st
  | .set o i e, bs => (bev C e bs).st fun v s1 => storeB (fun e => preT e (bev C e)) o i v s1 fun s => .nx s
  | .exp e, bs => (bev C e bs).st fun _ s1 => .nx s1
  | .ret e, bs => match e with
    | .var i => match bs.sl[i]? with
      | some (.val t own fr) => .rt ⟨t, fr || imm t, own⟩ bs.st
      | _ => .bad
    | e => (bev C e bs).st fun v s1 => .rt v s1.st
  | .ife c a b, bs => (btst C c bs).st fun k s1 => if k = true then bexs C a s1 else bexs C b s1
  | .for_ it tg b, bs => (bevIt C (fun i => nmSs i b) it bs).st fun ys s1 => forGoB tg (bexs C b) ys s1
  | .whl c b, bs => whlGoB (btst C c) (bexs C b) WN bs
  | .brk, bs => .bk bs
  | .cont, bs => .ct bs
  | .pass, bs => .nx bs
  | .never, _ => .bad
def bexs (C : Cb) : Ss → BS → BX
  | .nil, bs => .nx bs
  | .cons s r, bs => (bex C s bs).seq (bexs C r)
end
def arS : Ar → Sb
  | .v x => .val x.t false false
  | .s => .st
def runB (C : Cb) (d : Df) (as : List Ar) (st : Strm) : RC := if as.length = d.ps then
    match bexs C d.body ⟨as.map arS ++ List.replicate (d.n - as.length) .no, st⟩ with
    | .rt v s => .ok v s
    | .nx s => .ok ⟨.non, true, false⟩ s.st
    | _ => .bad
  else .bad
/-- calls; draws by the stream's own law -/
def callB (ns : List Int) (dg : Nat) (T : List Df) : Nat → Nat → List Ar → Strm → RC
  | 0, _, _, _ => .bad
  | k + 1, g, as, st => if g = dg then match as with
      | [.s, .v x] => match x.t with
        | .int m => match drawS st m with
          | some (i, s) => .ok ⟨.int i, true, false⟩ s
          | none => .bad
        | _ => .bad
      | _ => .bad
    else match T[g]? with
    | some d => runB ⟨ns, none, callB ns dg T k⟩ d as st
    | none => .bad
end HA

namespace HA
open PySem PySem.Spec PyProof.Rows L2

/-! ### layer B lies in layer A -/
abbrev Ow := List (Option Nat)
abbrev So := Option (Nat × Nat)
/-- where a value lies: not among O; if fresh, what can be changed is behind n0 -/
abbrev Pd (O : List Nat) (n0 : Nat) (fr : Bool) : PP := fun l m => l ∉ O ∧ (fr = true → m = true → n0 ≤ l)
def isOwn (ow : Ow) (l : Nat) : Prop := ∃ j : Nat, ow[j]? = some (some l)
def isStr (sr : So) (l : Nat) : Prop := ∃ p, sr = some p ∧ (l = p.1 ∨ l = p.2)
def StrOk (h : Hh) (sr : So) (st : Strm) : Prop := ∀ p, sr = some p → p.1 ≠ p.2 ∧ h[p.1]? = some (.lst [.ref p.2, .int st.cur, .int st.cnt, .int st.mix]) ∧ h[p.2]? = some (.lst (st.rest.map .int))
def SlotOk (n0 : Nat) (h : Hh) (O : List Nat) (ow : Ow) (sr : So) (i : Nat) (w : Option (Option Va)) : Sb → Prop
  | .no => True
  | .val t own fr => ∃ v, w = some (some v) ∧ if own = true then mutT t = true ∧ ∃ l, ow[i]? = some (some l) ∧ v = .ref l ∧ n0 ≤ l ∧ RTop (Pd O n0 fr) h v t else Rd' (Pd O n0 fr) h v t
  | .st => ∃ p, sr = some p ∧ w = some (some (.ref p.1))
structure BR (n0 : Nat) (h : Hh) (σ : Sl) (bs : BS) (O : List Nat) (ow : Ow) (sr : So) : Prop where
  len : σ.length = bs.sl.length
  ol : ow.length = bs.sl.length
  slots : ∀ (i : Nat) (b : Sb), bs.sl[i]? = some b → SlotOk n0 h O ow sr i σ[i]? b
  inO : ∀ l, isOwn ow l → l ∈ O ∧ ¬ isStr sr l
  inj : ∀ (i j l : Nat), ow[i]? = some (some l) → ow[j]? = some (some l) → i = j
  str : StrOk h sr bs.st
  sO : ∀ l, isStr sr l → l ∈ O
  lt : ∀ l, l ∈ O → l < h.length
  n0 : n0 ≤ h.length
/-- from one moment to a later one -/
structure Stp (h : Hh) (O : List Nat) (ow : Ow) (sr : So) (h' : Hh) (O' : List Nat) (ow' : Ow) (sr' : So) (nm : Nat → Bool) : Prop where
  len : h.length ≤ h'.length
  keep : ∀ (l : Nat) (o : Ob), h[l]? = some o → ¬ isStr sr l → (∀ (j : Nat), ow[j]? = some (some l) → nm j = true) → h'[l]? = some o
  oin : ∀ l, l ∈ O → ¬ isOwn ow l → l ∈ O'
  oout : ∀ l, l ∈ O' → l ∈ O ∨ h.length ≤ l
  own : ∀ (j l : Nat), ow'[j]? = some (some l) → ow[j]? = some (some l) ∨ h.length ≤ l
  str : ∀ l, isStr sr' l → isStr sr l ∨ h.length ≤ l
theorem Stp.refl {h : Hh} {O : List Nat} {ow : Ow} {sr : So} {nm : Nat → Bool} : Stp h O ow sr h O ow sr nm := ⟨Nat.le_refl _, fun _ _ e _ _ => e, fun _ h _ => h, fun _ h => .inl h, fun _ _ h => .inl h, fun _ h => .inl h⟩
theorem Stp.trans {h h1 h2 : Hh} {O O1 O2 : List Nat} {ow ow1 ow2 : Ow} {sr sr1 sr2 : So} {nm nm1 : Nat → Bool} (hO : ∀ l, l ∈ O → l < h.length) (a : Stp h O ow sr h1 O1 ow1 sr1 nm) (b : Stp h1 O1 ow1 sr1 h2 O2 ow2 sr2 nm1) : Stp h O ow sr h2 O2 ow2 sr2 (fun j => nm j && nm1 j) := by
  refine ⟨Nat.le_trans a.len b.len, fun l o e s w => ?_, fun l hl no => ?_, fun l hl => ?_, fun j l e => ?_, fun l e => ?_⟩
  · have hlt := lt_of_get e
    refine b.keep l o (a.keep l o e s fun j hj => ?_) (fun z => ?_) fun j hj => ?_
    · have := w j hj; rw [Bool.and_eq_true] at this; exact this.1
    · rcases a.str l z with z | z
      · exact s z
      · omega
    · rcases a.own j l hj with z | z
      · have := w j z; rw [Bool.and_eq_true] at this; exact this.2
      · omega
  · refine b.oin l (a.oin l hl no) fun ⟨j, hj⟩ => ?_
    rcases a.own j l hj with z | z
    · exact no ⟨j, z⟩
    · have := hO l hl; omega
  · rcases b.oout l hl with z | z
    · exact a.oout l z
    · exact .inr (Nat.le_trans a.len z)
  · rcases b.own j l e with z | z
    · exact a.own j l z
    · exact .inr (Nat.le_trans a.len z)
  · rcases b.str l e with z | z
    · exact a.str l z
    · exact .inr (Nat.le_trans a.len z)
theorem Stp.nm {h h' : Hh} {O O' : List Nat} {ow ow' : Ow} {sr sr' : So} {nm nm' : Nat → Bool} (a : Stp h O ow sr h' O' ow' sr' nm) (w : ∀ j, nm' j = true → nm j = true) : Stp h O ow sr h' O' ow' sr' nm' :=
  ⟨a.len, fun l o e s f => a.keep l o e s fun j hj => w j (f j hj), a.oin, a.oout, a.own, a.str⟩
/-- values persist -/
theorem BR.avoid {n0 : Nat} {h : Hh} {σ : Sl} {bs : BS} {O : List Nat} {ow : Ow} {sr : So} (B : BR n0 h σ bs O ow sr) {l : Nat} (hl : l ∉ O) : ¬ isOwn ow l ∧ ¬ isStr sr l := ⟨fun z => hl (B.inO l z).1, fun z => hl (B.sO l z)⟩
theorem Rd'.step {n0 : Nat} {h h' : Hh} {σ : Sl} {bs : BS} {O O' : List Nat} {ow ow' : Ow} {sr sr' : So} {nm : Nat → Bool} {fr : Bool} {v : Va} {t : Tr} (B : BR n0 h σ bs O ow sr) (a : Stp h O ow sr h' O' ow' sr' nm) (r : Rd' (Pd O n0 fr) h v t) : Rd' (Pd O' n0 fr) h' v t := by
  refine r.imp fun l m o p q => ?_
  obtain ⟨n1, n2⟩ := B.avoid p.1
  refine ⟨⟨fun z => ?_, p.2⟩, a.keep l o q n2 fun j hj => absurd ⟨j, hj⟩ n1⟩
  rcases a.oout l z with z | z
  · exact p.1 z
  · have := lt_of_get q; omega
theorem RTop.step {n0 : Nat} {h h' : Hh} {σ : Sl} {bs : BS} {O O' : List Nat} {ow ow' : Ow} {sr sr' : So} {nm : Nat → Bool} {fr : Bool} {l : Nat} {t : Tr} (B : BR n0 h σ bs O ow sr) (a : Stp h O ow sr h' O' ow' sr' nm) (n1 : ∀ j, ow[j]? = some (some l) → nm j = true) (n2 : ¬ isStr sr l) (r : RTop (Pd O n0 fr) h (.ref l) t) : RTop (Pd O' n0 fr) h' (.ref l) t := by
  refine r.imp (fun l m o p q => ?_) fun l' o e q => ?_
  · obtain ⟨n1, n2⟩ := B.avoid p.1
    refine ⟨⟨fun z => ?_, p.2⟩, a.keep l o q n2 fun j hj => absurd ⟨j, hj⟩ n1⟩
    rcases a.oout l z with z | z
    · exact p.1 z
    · have := lt_of_get q; omega
  · cases e
    exact a.keep _ o q n2 n1
theorem Rd'.less {n0 : Nat} {h : Hh} {O O' : List Nat} {fr : Bool} {v : Va} {t : Tr} (w : ∀ l, l ∈ O' → l ∈ O) (r : Rd' (Pd O n0 fr) h v t) : Rd' (Pd O' n0 fr) h v t := r.imp fun l m o p q => ⟨⟨fun z => p.1 (w l z), p.2⟩, q⟩
theorem RTop.less {n0 : Nat} {h : Hh} {O O' : List Nat} {fr : Bool} {v : Va} {t : Tr} (w : ∀ l, l ∈ O' → l ∈ O) (r : RTop (Pd O n0 fr) h v t) : RTop (Pd O' n0 fr) h v t := r.imp (fun l m o p q => ⟨⟨fun z => p.1 (w l z), p.2⟩, q⟩) fun _ _ _ q => q
/-- fewer labels to avoid, those of the slots and of the stream among them -/
theorem BR.less {n0 : Nat} {h : Hh} {σ : Sl} {bs : BS} {O O' : List Nat} {ow : Ow} {sr : So} (B : BR n0 h σ bs O ow sr) (w : ∀ l, l ∈ O' → l ∈ O) (w1 : ∀ l, isOwn ow l → l ∈ O') (w2 : ∀ l, isStr sr l → l ∈ O') : BR n0 h σ bs O' ow sr := by
  refine ⟨B.len, B.ol, fun i b e => ?_, fun l z => ⟨w1 l z, (B.inO l z).2⟩, B.inj, B.str, w2, fun l z => B.lt l (w l z), B.n0⟩
  have q := B.slots i b e
  cases b with
  | no => trivial
  | st => exact q
  | val t own fr =>
    obtain ⟨v, e1, q⟩ := q
    refine ⟨v, e1, ?_⟩
    split at q
    · rename_i ho
      rw [if_pos ho]
      obtain ⟨m, l, a, b, c, d⟩ := q
      exact ⟨m, l, a, b, c, d.less w⟩
    · rename_i ho
      rw [if_neg ho]
      exact q.less w
/-- a top where it lies -/
theorem RTop.rd {P : PP} {h : Hh} {l : Nat} {t : Tr} (r : RTop P h (.ref l) t) (p : P l (mutT t)) : Rd' P h (.ref l) t := by
  cases t with
  | lst ts => obtain ⟨l, xs, e, q, r⟩ := r; cases e; exact .lst p q r
  | tup ts => obtain ⟨l, xs, e, q, r⟩ := r; cases e; exact .tup p q r
  | dK ts => obtain ⟨l, xs, e, q, e1, r⟩ := r; cases e; exact .dK p q e1 r
  | dT ts => obtain ⟨l, xs, e, q, e1, r⟩ := r; cases e; exact .dT p q e1 r
  | _ => cases r
/-- a value -/
def LvP (n0 n1 : Nat) (h : Hh) (O : List Nat) (ow : Ow) (sr : So) (v : Va) (x : Lv) : Prop :=
  if x.uq = true then mutT x.t = true ∧ ∃ l, v = .ref l ∧ n1 ≤ l ∧ l ∈ O ∧ ¬ isOwn ow l ∧ ¬ isStr sr l ∧ RTop (Pd O n0 x.fr) h v x.t else Rd' (Pd O n0 x.fr) h v x.t
end HA

namespace HA
open PySem PySem.Spec PyProof.Rows L2
variable {n0 : Nat} {h : Hh} {σ : Sl} {bs : BS} {O : List Nat} {ow : Ow} {sr : So}

theorem StrOk.app {os : List Ob} {st : Strm} (s : StrOk h sr st) : StrOk (h ++ os) sr st := fun p e => ⟨(s p e).1, get_app (s p e).2.1, get_app (s p e).2.2⟩
/-- new objects -/
theorem BR.grow (B : BR n0 h σ bs O ow sr) (os : List Ob) : BR n0 (h ++ os) σ bs O ow sr := by
  refine ⟨B.len, B.ol, fun i b e => ?_, B.inO, B.inj, B.str.app, B.sO, fun l z => by rw [List.length_append]; have := B.lt l z; omega, by rw [List.length_append]; have := B.n0; omega⟩
  have q := B.slots i b e
  cases b with
  | no => trivial
  | st => exact q
  | val t own fr =>
    obtain ⟨v, e1, q⟩ := q
    refine ⟨v, e1, ?_⟩
    split at q
    · rename_i ho
      rw [if_pos ho]
      obtain ⟨m, l, a, b, c, d⟩ := q
      exact ⟨m, l, a, b, c, d.imp (fun l m o p q => ⟨p, get_app q⟩) fun _ _ _ q => get_app q⟩
    · rename_i ho
      rw [if_neg ho]
      exact q.imp fun l m o p q => ⟨p, get_app q⟩
/-- one more label to avoid, which nothing reaches -/
theorem BR.more (B : BR n0 h σ bs O ow sr) {l : Nat} (hl : h.length ≤ l) (os : List Ob) (hl2 : l < (h ++ os).length) : BR n0 (h ++ os) σ bs (l :: O) ow sr := by
  have hx : ∀ x o, x ∉ O → h[x]? = some o → x ∉ l :: O := fun x o p q z => by
    rcases List.mem_cons.mp z with z | z
    · have := lt_of_get q; omega
    · exact p z
  refine ⟨B.len, B.ol, fun i b e => ?_, fun x z => ⟨List.mem_cons_of_mem _ (B.inO x z).1, (B.inO x z).2⟩, B.inj, B.str.app, fun x z => List.mem_cons_of_mem _ (B.sO x z), fun x z => ?_, by rw [List.length_append]; have := B.n0; omega⟩
  · have q := B.slots i b e
    cases b with
    | no => trivial
    | st => exact q
    | val t own fr =>
      obtain ⟨v, e1, q⟩ := q
      refine ⟨v, e1, ?_⟩
      split at q
      · rename_i ho
        rw [if_pos ho]
        obtain ⟨m, l', a, b, c, d⟩ := q
        exact ⟨m, l', a, b, c, d.imp (fun x m o p q => ⟨⟨hx x o p.1 q, p.2⟩, get_app q⟩) fun _ _ _ q => get_app q⟩
      · rename_i ho
        rw [if_neg ho]
        exact q.imp fun x m o p q => ⟨⟨hx x o p.1 q, p.2⟩, get_app q⟩
  · rcases List.mem_cons.mp z with rfl | z
    · exact hl2
    · have := B.lt x z; rw [List.length_append]; omega
theorem Stp.grow {nm : Nat → Bool} (os : List Ob) {O' : List Nat} (w1 : ∀ l, l ∈ O → l ∈ O') (w2 : ∀ l, l ∈ O' → l ∈ O ∨ h.length ≤ l) : Stp h O ow sr (h ++ os) O' ow sr nm :=
  ⟨by rw [List.length_append]; omega, fun l o e _ _ => get_app e, fun l z _ => w1 l z, w2, fun _ _ z => .inl z, fun _ z => .inl z⟩
/-- only immediate things beneath -/
theorem RTop.immE {P Q : PP} {v : Va} {t : Tr} (f : ∀ l, P l false → Q l false) (r : RTop P h v t) (e : immE t = true) : RTop Q h v t := by
  cases t with
  | lst ts => obtain ⟨l, xs, e0, q, r⟩ := r; exact ⟨l, xs, e0, q, immL_rd f r e⟩
  | tup ts => obtain ⟨l, xs, e0, q, r⟩ := r; exact ⟨l, xs, e0, q, immL_rd f r e⟩
  | dK ts => obtain ⟨l, xs, e0, q, e1, r⟩ := r; exact ⟨l, xs, e0, q, e1, immL_rd f r e⟩
  | dT ts => obtain ⟨l, xs, e0, q, e1, r⟩ := r; exact ⟨l, xs, e0, q, e1, immL_rd f r e⟩
  | _ => exact r
theorem pd_or {O : List Nat} {n0 : Nat} {f : Bool} {l : Nat} (p : Pd O n0 f l false) : Pd O n0 true l false := ⟨p.1, fun _ z => by cases z⟩
theorem Rd'.old {f : Bool} {v : Va} {t : Tr} (r : Rd' (Pd O n0 f) h v t) : Rd' (Pd O n0 (f || imm t)) h v t := by
  cases f with
  | true => exact r
  | false =>
    cases e : imm t with
    | false => exact r
    | true => exact imm_rd (fun _ p => pd_or p) r e
theorem imm_mut {t : Tr} (e : mutT t = false) (e2 : immE t = true) : imm t = true := by
  cases t <;> first | rfl | (cases e; done) | exact e2
/-- the state behind an operation -/
structure Got (n0 : Nat) (h : Hh) (σ : Sl) (bs : BS) (O : List Nat) (ow : Ow) (sr : So) (r : RE Va) (x : Lv) (nm : Nat → Bool) (bs' : BS) : Prop where
  ex : ∃ h' v O' ow', r = .ok v h' ∧ BR n0 h' σ bs' O' ow' sr ∧ Stp h O ow sr h' O' ow' sr nm ∧ LvP n0 h.length h' O' ow' sr v x
theorem got_new {f : Bool} {r : RE Va} {t : Tr} {nm : Nat → Bool} (B : BR n0 h σ bs O ow sr) (q : ResOk (Pd O n0 f) h r t) : Got n0 h σ bs O ow sr r (mkNew t f) nm bs := by
  cases q with
  | pick r hm =>
    refine ⟨h, _, O, ow, rfl, B, .refl, ?_⟩
    unfold LvP mkNew
    rw [if_neg (by show ¬ mutT t = true; rw [hm]; exact Bool.false_ne_true)]
    show Rd' (Pd O n0 (f || immE t)) h _ t
    cases f with
    | true => exact r
    | false =>
      cases e : immE t with
      | false => exact r
      | true => exact imm_rd (fun _ p => pd_or p) r (imm_mut hm e)
  | @new l _ os hl r =>
    have hlt : l < (h ++ os).length := by
      cases t with
      | lst ts => obtain ⟨l', xs, e, q, _⟩ := r; cases e; exact lt_of_get q
      | tup ts => obtain ⟨l', xs, e, q, _⟩ := r; cases e; exact lt_of_get q
      | dK ts => obtain ⟨l', xs, e, q, _⟩ := r; cases e; exact lt_of_get q
      | dT ts => obtain ⟨l', xs, e, q, _⟩ := r; cases e; exact lt_of_get q
      | _ => cases r
    have hno : l ∉ O := fun z => by have := B.lt l z; omega
    have rr : RTop (Pd (l :: O) n0 (f || immE t)) (h ++ os) (.ref l) t := by
      have base : RTop (Pd (l :: O) n0 f) (h ++ os) (.ref l) t := r.imp (fun x m o p q => by
        refine ⟨⟨fun z => ?_, fun hf hm => ?_⟩, q⟩
        · rcases List.mem_cons.mp z with z | z
          · exact p.2 z
          · rcases p.1 with p | p
            · exact p.1 z
            · have := B.lt x z; omega
        · rcases p.1 with p | p
          · exact p.2 hf hm
          · exact Nat.le_trans B.n0 p) fun _ _ _ q => q
      cases f with
      | true => exact base
      | false =>
        cases e : immE t with
        | false => exact base
        | true => exact base.immE (fun _ p => pd_or p) e
    cases hm : mutT t with
    | true =>
      refine ⟨h ++ os, _, l :: O, ow, rfl, B.more hl os hlt, .grow os (fun x z => List.mem_cons_of_mem _ z) (fun x z => ?_), ?_⟩
      · rcases List.mem_cons.mp z with rfl | z
        · exact .inr hl
        · exact .inl z
      · unfold LvP mkNew
        rw [if_pos hm]
        exact ⟨hm, l, rfl, hl, List.mem_cons_self, fun z => hno (B.inO l z).1, fun z => hno (B.sO l z), rr⟩
    | false =>
      refine ⟨h ++ os, _, O, ow, rfl, B.grow os, .grow os (fun x z => z) (fun x z => .inl z), ?_⟩
      unfold LvP mkNew
      rw [if_neg (by show ¬ mutT t = true; rw [hm]; exact Bool.false_ne_true)]
      exact (rr.less fun x z => List.mem_cons_of_mem _ z).rd ⟨hno, fun _ z => by rw [hm] at z; cases z⟩
theorem got_old {f : Bool} {v : Va} {t : Tr} {nm : Nat → Bool} (B : BR n0 h σ bs O ow sr) (r : Rd' (Pd O n0 f) h v t) : Got n0 h σ bs O ow sr (.ok v h) (mkOld t f) nm bs := by
  refine ⟨h, v, O, ow, rfl, B, .refl, ?_⟩
  unfold LvP mkOld
  rw [if_neg Bool.false_ne_true]
  exact r.old
theorem got_atom {v : Va} {t : Tr} {nm : Nat → Bool} (B : BR n0 h σ bs O ow sr) (r : ∀ P : PP, Rd' P h v t) : Got n0 h σ bs O ow sr (.ok v h) ⟨t, true, false⟩ nm bs := by
  refine ⟨h, v, O, ow, rfl, B, .refl, ?_⟩
  unfold LvP
  rw [if_neg Bool.false_ne_true]
  exact r _
/-- the top of a value given away is like any other -/
theorem LvP.forget {n1 : Nat} {v : Va} {x : Lv} (B : BR n0 h σ bs O ow sr) (hn : n0 ≤ n1) (q : LvP n0 n1 h O ow sr v x) : ∃ O', BR n0 h σ bs O' ow sr ∧ (∀ l, l ∈ O' → l ∈ O) ∧ (∀ l, l ∈ O → l < n1 → l ∈ O') ∧ Rd' (Pd O' n0 x.fr) h v x.t := by
  unfold LvP at q
  split at q
  · obtain ⟨hm, l, rfl, hl, hO, no, ns, r⟩ := q
    refine ⟨O.filter (fun x => decide (x ≠ l)), B.less (fun x z => (List.mem_filter.mp z).1) (fun x z => List.mem_filter.mpr ⟨(B.inO x z).1, decide_eq_true fun e => no (by rw [← e]; exact z)⟩) (fun x z => List.mem_filter.mpr ⟨B.sO x z, decide_eq_true fun e => ns (by rw [← e]; exact z)⟩), fun x z => (List.mem_filter.mp z).1,
      fun x z hx => List.mem_filter.mpr ⟨z, decide_eq_true fun e => by omega⟩, (r.less fun x z => (List.mem_filter.mp z).1).rd ⟨fun z => ?_, fun _ _ => Nat.le_trans hn hl⟩⟩
    have := (List.mem_filter.mp z).2
    simp at this
  · exact ⟨O, B, fun _ z => z, fun _ z _ => z, q⟩
/-- a variable that is looked at -/
theorem look_slot {i : Nat} {t : Tr} {own fr : Bool} (B : BR n0 h σ bs O ow sr) (e : bs.sl[i]? = some (.val t own fr)) : ∃ v, σ[i]? = some (some v) ∧ RTop (Pd O n0 (fr || imm t)) h v t := by
  obtain ⟨v, e1, q⟩ := B.slots i _ e
  refine ⟨v, e1, ?_⟩
  split at q
  · obtain ⟨m, l, a, b, c, d⟩ := q
    have : imm t = false := by cases t <;> first | rfl | cases m
    rw [this, Bool.or_false]
    exact d
  · exact q.old.top
end HA

namespace HA
open PySem PySem.Spec PyProof.Rows L2
variable {n0 : Nat} {h : Hh} {σ : Sl} {bs bs' : BS} {O : List Nat} {ow : Ow} {sr : So}

theorem LvP.le {n1 n2 : Nat} {v : Va} {x : Lv} (q : LvP n0 n1 h O ow sr v x) (w : n2 ≤ n1) : LvP n0 n2 h O ow sr v x := by
  unfold LvP at q ⊢
  split at q
  · rename_i hu
    rw [if_pos hu]
    obtain ⟨m, l, a, b, c⟩ := q
    exact ⟨m, l, a, Nat.le_trans w b, c⟩
  · rename_i hu
    rw [if_neg hu]
    exact q
theorem Got.after {h1 : Hh} {bs1 : BS} {O1 : List Nat} {ow1 : Ow} {r : RE Va} {x : Lv} {nm nm1 : Nat → Bool} (B : BR n0 h σ bs O ow sr) (s : Stp h O ow sr h1 O1 ow1 sr nm) (g : Got n0 h1 σ bs1 O1 ow1 sr r x nm1 bs') : Got n0 h σ bs O ow sr r x (fun j => nm j && nm1 j) bs' := by
  obtain ⟨h', v, O', ow', e, b, s2, q⟩ := g
  exact ⟨h', v, O', ow', e, b, .trans B.lt s s2, q.le s.len⟩
theorem Got.nm {r : RE Va} {x : Lv} {nm nm' : Nat → Bool} (g : Got n0 h σ bs O ow sr r x nm bs') (w : ∀ j, nm' j = true → nm j = true) : Got n0 h σ bs O ow sr r x nm' bs' := by
  obtain ⟨h', v, O', ow', e, b, s, q⟩ := g
  exact ⟨h', v, O', ow', e, b, s.nm w, q⟩
theorem Got.forget {r : RE Va} {x : Lv} {nm : Nat → Bool} (B : BR n0 h σ bs O ow sr) (g : Got n0 h σ bs O ow sr r x nm bs') : ∃ h' v O' ow', r = .ok v h' ∧ BR n0 h' σ bs' O' ow' sr ∧ Stp h O ow sr h' O' ow' sr nm ∧ Rd' (Pd O' n0 x.fr) h' v x.t := by
  obtain ⟨h', v, O', ow', e, b, s, q⟩ := g
  obtain ⟨O2, b2, w1, w2, r2⟩ := q.forget b B.n0
  exact ⟨h', v, O2, ow', e, b2, ⟨s.len, s.keep, fun l z no => w2 l (s.oin l z no) (B.lt l z), fun l z => s.oout l (w1 l z), s.own, s.str⟩, r2⟩
/-! ### parts that are looked at -/
def PvP (n0 : Nat) (h : Hh) (σ : Sl) (O : List Nat) (v : Va) : Nat ⊕ Lv → Prop
  | .inl i => σ[i]? = some (some v)
  | .inr x => Rd' (Pd O n0 x.fr) h v x.t
theorem PvP.step {h' : Hh} {O' : List Nat} {ow' : Ow} {nm : Nat → Bool} {v : Va} {x : Nat ⊕ Lv} (B : BR n0 h σ bs O ow sr) (s : Stp h O ow sr h' O' ow' sr nm) (p : PvP n0 h σ O v x) : PvP n0 h' σ O' v x := by
  cases x with
  | inl i => exact p
  | inr x => exact Rd'.step B s p
theorem PvP.fin {v : Va} {x : Nat ⊕ Lv} {t : Tr} {f : Bool} (B : BR n0 h σ bs O ow sr) (p : PvP n0 h σ O v x) (e : finT x bs = some (t, f)) : RTop (Pd O n0 f) h v t := by
  cases x with
  | inl i =>
    unfold finT at e
    split at e
    · rename_i z; cases z
      split at e
      · rename_i t' own fr es
        cases e
        obtain ⟨v', e1, r⟩ := look_slot B es
        rw [show σ[i]? = some (some v) from p] at e1
        cases e1
        exact r
      · cases e
    · rename_i z; cases z
  | inr x => cases e; exact (show Rd' (Pd O n0 x.fr) h v x.t from p).top
structure GotP (n0 : Nat) (h : Hh) (σ : Sl) (bs : BS) (O : List Nat) (ow : Ow) (sr : So) (r : RE Va) (x : Nat ⊕ Lv) (nm : Nat → Bool) (bs' : BS) : Prop where
  ex : ∃ h' v O' ow', r = .ok v h' ∧ BR n0 h' σ bs' O' ow' sr ∧ Stp h O ow sr h' O' ow' sr nm ∧ PvP n0 h' σ O' v x
section
variable {Ca : Cf} {C : Cb}
def EvOk (Ca : Cf) (C : Cb) (e : E) : Prop := ∀ {n0 : Nat} {h : Hh} {σ : Sl} {bs bs' : BS} {O : List Nat} {ow : Ow} {sr : So} {x : Lv}, BR n0 h σ bs O ow sr → bev C e bs = .ok x bs' → Got n0 h σ bs O ow sr (ev Ca e σ h) x (fun j => nmE j e) bs'
theorem rb_bind {α β : Type} {r : RB α} {k : α → BS → RB β} {y : β} {s : BS} (e : r.bind k = .ok y s) : ∃ a s1, r = .ok a s1 ∧ k a s1 = .ok y s := by
  cases r with
  | ok a s1 => exact ⟨a, s1, rfl, e⟩
  | bad => cases e
theorem slot_var {i : Nat} {t : Tr} {own fr : Bool} (B : BR n0 h σ bs O ow sr) (e : bs.sl[i]? = some (.val t own fr)) : ∃ v, σ[i]? = some (some v) ∧ ev Ca (.var i) σ h = .ok v h := by
  obtain ⟨v, e1, _⟩ := B.slots i _ e
  refine ⟨v, e1, ?_⟩
  unfold ev
  rw [e1]
theorem pre_ok {a : E} (ha : EvOk Ca C a) {x : Nat ⊕ Lv} (B : BR n0 h σ bs O ow sr) (e : preT a (bev C a) bs = .ok x bs') : GotP n0 h σ bs O ow sr (ev Ca a σ h) x (fun j => nmE j a) bs' := by
  have other : (∀ i, a ≠ .var i) → GotP n0 h σ bs O ow sr (ev Ca a σ h) x (fun j => nmE j a) bs' := fun hn => by
    have e : ((bev C a bs).bind fun x s => .ok (.inr x) s) = .ok x bs' := by
      cases a <;> first | exact absurd rfl (hn _) | exact e
    obtain ⟨y, s1, e1, e2⟩ := rb_bind e
    cases e2
    obtain ⟨h', v, O', ow', q1, q2, q3, q4⟩ := (ha B e1).forget B
    exact ⟨h', v, O', ow', q1, q2, q3, q4⟩
  cases a with
  | var i =>
    unfold preT at e
    split at e
    · rename_i z
      cases z
      split at e
      · rename_i t own fr es
        cases e
        obtain ⟨v, e1, e2⟩ := slot_var (Ca := Ca) B es
        exact ⟨h, v, O, ow, e2, B, .refl, e1⟩
      · cases e
    · rename_i hn
      exact absurd rfl (hn i)
  | _ => exact other fun i z => by cases z
/-- flipping a slot -/
theorem BR.flip {i : Nat} {t : Tr} {own fr : Bool} (B : BR n0 h σ bs O ow sr) (e : bs.sl[i]? = some (.val t own fr)) :
    ∃ v O' ow', σ[i]? = some (some v) ∧ BR n0 h σ ⟨bs.sl.set i (.val t false fr), bs.st⟩ O' ow' sr ∧ Rd' (Pd O' n0 fr) h v t ∧ ∀ nm, Stp h O ow sr h O' ow' sr nm := by
  obtain ⟨v, e1, q⟩ := B.slots i _ e
  have hi : i < bs.sl.length := (List.getElem?_eq_some_iff.mp e).1
  cases own with
  | false =>
    rw [if_neg Bool.false_ne_true] at q
    have es : bs.sl.set i (.val t false fr) = bs.sl := by
      apply List.ext_getElem?
      intro j
      rw [List.getElem?_set]
      split
      · rename_i hj; subst hj; first | rw [e] | rw [if_pos hi, e]
      · rfl
    rw [es]
    exact ⟨v, O, ow, e1, B, q, fun _ => .refl⟩
  | true =>
    rw [if_pos rfl] at q
    obtain ⟨m, l, a, rfl, c, d⟩ := q
    have hlO : l ∈ O := (B.inO l ⟨i, a⟩).1
    have hls : ¬ isStr sr l := (B.inO l ⟨i, a⟩).2
    have sub : ∀ x, x ∈ O.filter (fun x => decide (x ≠ l)) → x ∈ O := fun x z => (List.mem_filter.mp z).1
    have hnl : l ∉ O.filter (fun x => decide (x ≠ l)) := fun z => by
      have := (List.mem_filter.mp z).2
      simp at this
    have back : ∀ (j x : Nat), (ow.set i none)[j]? = some (some x) → ow[j]? = some (some x) ∧ j ≠ i := fun j x z => by
      rw [List.getElem?_set] at z
      split at z
      · split at z <;> cases z
      · rename_i hj; exact ⟨z, fun w => hj w.symm⟩
    have ne : ∀ (j x : Nat), (ow.set i none)[j]? = some (some x) → x ≠ l := fun j x z w => by
      obtain ⟨z1, z2⟩ := back j x z
      rw [w] at z1
      exact z2 (B.inj j i l z1 a)
    have rd : Rd' (Pd (O.filter (fun x => decide (x ≠ l))) n0 fr) h (.ref l) t := (d.less sub).rd ⟨hnl, fun _ _ => c⟩
    refine ⟨.ref l, O.filter (fun x => decide (x ≠ l)), ow.set i none, e1, ⟨by rw [List.length_set]; exact B.len, by rw [List.length_set, List.length_set]; exact B.ol, fun j b eb => ?_, fun x ⟨j, z⟩ => ?_, fun j k x z1 z2 => B.inj j k x (back j x z1).1 (back k x z2).1, B.str, fun x z => ?_, fun x z => B.lt x (sub x z), B.n0⟩, rd, fun nm => ⟨Nat.le_refl _, fun _ _ e _ _ => e, fun x z no => List.mem_filter.mpr ⟨z, decide_eq_true fun w => no ⟨i, by rw [w]; exact a⟩⟩, fun x z => .inl (sub x z), fun j x z => .inl (back j x z).1, fun x z => .inl z⟩⟩
    · rw [List.getElem?_set] at eb
      split at eb
      · rename_i hj
        subst hj
        first | rw [if_pos hi] at eb | skip
        cases eb
        exact ⟨_, e1, by rw [if_neg Bool.false_ne_true]; exact rd⟩
      · rename_i hj
        have q := B.slots j b eb
        cases b with
        | no => trivial
        | st => exact q
        | val t2 own2 fr2 =>
          obtain ⟨v2, e2, q⟩ := q
          refine ⟨v2, e2, ?_⟩
          split at q
          · rename_i ho
            rw [if_pos ho]
            obtain ⟨m2, l2, a2, b2, c2, d2⟩ := q
            exact ⟨m2, l2, by rw [List.getElem?_set, if_neg hj]; exact a2, b2, c2, d2.less sub⟩
          · rename_i ho
            rw [if_neg ho]
            exact q.less sub
    · obtain ⟨z1, z2⟩ := back j x z
      exact ⟨List.mem_filter.mpr ⟨(B.inO x ⟨j, z1⟩).1, decide_eq_true (ne j x z)⟩, (B.inO x ⟨j, z1⟩).2⟩
    · exact List.mem_filter.mpr ⟨B.sO x z, decide_eq_true fun w => hls (by rw [← w]; exact z)⟩
theorem var_ok {i : Nat} : EvOk Ca C (.var i) := by
  intro n0 h σ bs bs' O ow sr x B e
  unfold bev at e
  split at e
  · rename_i t own fr es
    cases e
    obtain ⟨v, O', ow', e1, B', r, s⟩ := B.flip es
    have e2 : ev Ca (.var i) σ h = .ok v h := by unfold ev; rw [e1]
    rw [e2]
    refine ⟨h, v, O', ow', rfl, B', s _, ?_⟩
    unfold LvP mkOld
    rw [if_neg Bool.false_ne_true]
    exact r.old
  · cases e
theorem op1_ok {x : Nat ⊕ Lv} {s : BS} {k : Tr → Bool → RB Lv} {y : Lv} (e : op1 x s k = .ok y bs') : ∃ t f, finT x s = some (t, f) ∧ k t f = .ok y bs' := by
  unfold op1 at e
  split at e
  · rename_i t f ef; exact ⟨t, f, ef, e⟩
  · cases e
theorem newB_ok {o : Option Tr} {f : Bool} {s : BS} {y : Lv} (e : newB o f s = .ok y bs') : ∃ t, o = some t ∧ y = mkNew t f ∧ bs' = s := by
  unfold newB at e
  split at e
  · cases e; exact ⟨_, rfl, rfl, rfl⟩
  · cases e
theorem oldB_ok {o : Option Tr} {f : Bool} {s : BS} {y : Lv} (e : oldB o f s = .ok y bs') : ∃ t, o = some t ∧ y = mkOld t f ∧ bs' = s := by
  unfold oldB at e
  split at e
  · cases e; exact ⟨_, rfl, rfl, rfl⟩
  · cases e
theorem blB_ok {o : Option Bool} {s : BS} {y : Lv} (e : blB o s = .ok y bs') : ∃ t, o = some t ∧ y = ⟨.bl t, true, false⟩ ∧ bs' = s := by
  unfold blB at e
  split at e
  · cases e; exact ⟨_, rfl, rfl, rfl⟩
  · cases e
/-- one part, then an operation -/
theorem ev1 {a : E} (ha : EvOk Ca C a) {kB : (Nat ⊕ Lv) → BS → RB Lv} {kA : Va → Hh → RE Va} {y : Lv} (B : BR n0 h σ bs O ow sr) (e : ((preT a (bev C a) bs).bind kB) = .ok y bs')
    (hk : ∀ {x h1 v s1 O1 ow1 sr}, BR n0 h1 σ s1 O1 ow1 sr → PvP n0 h1 σ O1 v x → kB x s1 = .ok y bs' → Got n0 h1 σ s1 O1 ow1 sr (kA v h1) y (fun _ => true) bs') :
    Got n0 h σ bs O ow sr ((ev Ca a σ h).bind kA) y (fun j => nmE j a) bs' := by
  obtain ⟨x, s1, e1, e2⟩ := rb_bind e
  obtain ⟨h1, v, O1, ow1, q1, q2, q3, q4⟩ := pre_ok ha B e1
  rw [q1]
  exact (Got.after B q3 (hk q2 q4 e2)).nm fun j hj => by rw [hj]; rfl
/-- two parts, then an operation -/
theorem ev2 {a b : E} (ha : EvOk Ca C a) (hb : EvOk Ca C b) {kB : (Nat ⊕ Lv) → (Nat ⊕ Lv) → BS → RB Lv} {kA : Va → Va → Hh → RE Va} {y : Lv} (B : BR n0 h σ bs O ow sr) (e : ((preT a (bev C a) bs).bind fun x s1 => (preT b (bev C b) s1).bind (kB x)) = .ok y bs')
    (hk : ∀ {x z h1 v w s1 O1 ow1 sr}, BR n0 h1 σ s1 O1 ow1 sr → PvP n0 h1 σ O1 v x → PvP n0 h1 σ O1 w z → kB x z s1 = .ok y bs' → Got n0 h1 σ s1 O1 ow1 sr (kA v w h1) y (fun _ => true) bs') :
    Got n0 h σ bs O ow sr ((ev Ca a σ h).bind fun v h1 => (ev Ca b σ h1).bind (kA v)) y (fun j => nmE j a && nmE j b) bs' := by
  obtain ⟨x, s1, e1, e2⟩ := rb_bind e
  obtain ⟨h1, v, O1, ow1, q1, q2, q3, q4⟩ := pre_ok ha B e1
  rw [q1]
  obtain ⟨z, s2, e3, e4⟩ := rb_bind e2
  obtain ⟨h2, w, O2, ow2, p1, p2, p3, p4⟩ := pre_ok hb q2 e3
  have g := Got.after q2 p3 (hk p2 (q4.step q2 p3) p4 e4)
  have g2 := Got.after B q3 g
  refine Got.nm (nm := fun j => nmE j a && (nmE j b && true)) ?_ fun j hj => by rw [Bool.and_true]; exact hj
  show Got n0 h σ bs O ow sr ((ev Ca b σ h1).bind (kA v)) y _ bs'
  rw [p1]
  exact g2
end
end HA

namespace HA
open PySem PySem.Spec PyProof.Rows L2
section
variable {n0 : Nat} {h : Hh} {σ : Sl} {bs bs' : BS} {O : List Nat} {ow : Ow} {sr : So} {Ca : Cf} {C : Cb}

theorem bin_B {o : Bo} {a b : E} (ha : EvOk Ca C a) (hb : EvOk Ca C b) : EvOk Ca C (.bin o a b) := by
  intro n0 h σ bs bs' O ow sr x B e
  refine ev2 ha hb (kB := fun x y s2 => op1 x s2 fun t f => op1 y s2 fun u g => newB (binT o t u) (f && g) s2) (kA := binV o) B e fun {x z h1 v w s1 O1 ow1 sr} B1 px pz e1 => ?_
  obtain ⟨t, f, e2, e1⟩ := op1_ok e1
  obtain ⟨u, g, e3, e1⟩ := op1_ok e1
  obtain ⟨r, e4, rfl, rfl⟩ := newB_ok e1
  refine got_new B1 (bin_ok o ((px.fin B1 e2).imp (fun l m o p q => ⟨⟨p.1, fun z => p.2 ?_⟩, q⟩) fun _ _ _ q => q) ((pz.fin B1 e3).imp (fun l m o p q => ⟨⟨p.1, fun z => p.2 ?_⟩, q⟩) fun _ _ _ q => q) e4)
  · rw [Bool.and_eq_true] at z; exact z.1
  · rw [Bool.and_eq_true] at z; exact z.2
theorem neg_B {a : E} (ha : EvOk Ca C a) : EvOk Ca C (.neg a) := by
  intro n0 h σ bs bs' O ow sr x B e
  refine ev1 ha (kB := fun x s1 => op1 x s1 fun t f => newB (negT t) true s1) (kA := negV) B e fun {x h1 v s1 O1 ow1 sr} B1 px e1 => ?_
  obtain ⟨t, f, e2, e1⟩ := op1_ok e1
  obtain ⟨r, e4, rfl, rfl⟩ := newB_ok e1
  unfold negT at e4
  split at e4
  · have q : v = .int _ := px.fin B1 e2
    cases e4
    rw [q]
    exact got_new (f := true) B1 (.pick (.int _))
  · cases e4
theorem truB_ok {x : Nat ⊕ Lv} {v : Va} {k : Bool} (B : BR n0 h σ bs O ow sr) (p : PvP n0 h σ O v x) (e : truB x bs = .ok k bs') : truV v h = some k ∧ bs' = bs := by
  unfold truB at e
  split at e
  · rename_i t f ef
    unfold liftB at e
    split at e
    · rename_i k' ek
      cases e
      exact ⟨tru_ok (p.fin B ef) ek, rfl⟩
    · cases e
  · cases e
theorem not_B {a : E} (ha : EvOk Ca C a) : EvOk Ca C (.not a) := by
  intro n0 h σ bs bs' O ow sr x B e
  have q : ev Ca (.not a) σ h = (ev Ca a σ h).bind fun v h1 => (liftO (truV v h1) h1).bind fun b h2 => .ok (.bl (!b)) h2 := by
    show ((ev Ca a σ h).bind fun v h1 => liftO (truV v h1) h1).bind _ = _
    cases ev Ca a σ h <;> rfl
  rw [q]
  refine ev1 ha (kB := fun x s1 => (truB x s1).bind fun k s2 => .ok ⟨.bl (!k), true, false⟩ s2) (kA := fun v h1 => (liftO (truV v h1) h1).bind fun b h2 => .ok (.bl (!b)) h2) B e fun {x h1 v s1 O1 ow1 sr} B1 px e1 => ?_
  obtain ⟨k, s2, e2, e3⟩ := rb_bind e1
  obtain ⟨e4, rfl⟩ := truB_ok B1 px e2
  cases e3
  rw [e4]
  exact got_atom B1 fun P => .bl _
theorem and_B {a b : E} (ha : EvOk Ca C a) (hb : EvOk Ca C b) : EvOk Ca C (.and a b) := by
  intro n0 h σ bs bs' O ow sr x B e
  have e : ((bev C a bs).bind fun x s1 => match truT x.t with
    | some true => bev C b s1
    | some false => .ok x s1
    | none => .bad) = .ok x bs' := e
  obtain ⟨y, s1, e1, e2⟩ := rb_bind e
  have ga := ha B e1
  obtain ⟨h1, v, O1, ow1, q1, q2, q3, q4⟩ := ga.forget B
  have q : ev Ca (.and a b) σ h = (match truV v h1 with
    | some true => ev Ca b σ h1
    | some false => .ok v h1
    | none => .bad) := by
    show (ev Ca a σ h).bind _ = _
    rw [q1]; rfl
  split at e2
  · rename_i et
    rw [q, tru_ok q4.top et]
    exact (Got.after B q3 (hb q2 e2))
  · rename_i et
    cases e2
    rw [q, tru_ok q4.top et]
    simp only []
    rw [← q1]
    exact ga.nm fun j hj => by
      have hj : (nmE j a && nmE j b) = true := hj
      rw [Bool.and_eq_true] at hj; exact hj.1
  · cases e2
theorem or_B {a b : E} (ha : EvOk Ca C a) (hb : EvOk Ca C b) : EvOk Ca C (.or a b) := by
  intro n0 h σ bs bs' O ow sr x B e
  have e : ((bev C a bs).bind fun x s1 => match truT x.t with
    | some true => .ok x s1
    | some false => bev C b s1
    | none => .bad) = .ok x bs' := e
  obtain ⟨y, s1, e1, e2⟩ := rb_bind e
  have ga := ha B e1
  obtain ⟨h1, v, O1, ow1, q1, q2, q3, q4⟩ := ga.forget B
  have q : ev Ca (.or a b) σ h = (match truV v h1 with
    | some true => .ok v h1
    | some false => ev Ca b σ h1
    | none => .bad) := by
    show (ev Ca a σ h).bind _ = _
    rw [q1]; rfl
  split at e2
  · rename_i et
    cases e2
    rw [q, tru_ok q4.top et]
    simp only []
    rw [← q1]
    exact ga.nm fun j hj => by
      have hj : (nmE j a && nmE j b) = true := hj
      rw [Bool.and_eq_true] at hj; exact hj.1
  · rename_i et
    rw [q, tru_ok q4.top et]
    exact (Got.after B q3 (hb q2 e2))
  · cases e2
theorem cmp_B {c : Co} {a b : E} (ha : EvOk Ca C a) (hb : EvOk Ca C b) : EvOk Ca C (.cmp c a b) := by
  intro n0 h σ bs bs' O ow sr x B e
  refine ev2 ha hb (kB := fun x y s2 => op1 x s2 fun t _ => op1 y s2 fun u _ => blB (cmpT c t u) s2) (kA := cmpV c) B e fun {x z h1 v w s1 O1 ow1 sr} B1 px pz e1 => ?_
  obtain ⟨t, f, e2, e1⟩ := op1_ok e1
  obtain ⟨u, g, e3, e1⟩ := op1_ok e1
  obtain ⟨r, e4, rfl, rfl⟩ := blB_ok e1
  rw [cmp_ok (P := Pd O1 n0 false) c ((px.fin B1 e2).imp (fun l m o p q => ⟨⟨p.1, fun z => by cases z⟩, q⟩) fun _ _ _ q => q) ((pz.fin B1 e3).imp (fun l m o p q => ⟨⟨p.1, fun z => by cases z⟩, q⟩) fun _ _ _ q => q) e4]
  exact got_atom B1 fun P => .bl _
theorem any_top {f : Bool} {v : Va} {t : Tr} (r : RTop (Pd O n0 f) h v t) : RTop (Pd O n0 false) h v t := r.imp (fun l m o p q => ⟨⟨p.1, fun z => by cases z⟩, q⟩) fun _ _ _ q => q
theorem chn_B {c d : Co} {a b z : E} (ha : EvOk Ca C a) (hb : EvOk Ca C b) (hz : EvOk Ca C z) : EvOk Ca C (.chn c d a b z) := by
  intro n0 h σ bs bs' O ow sr y B e
  have q : ev Ca (.chn c d a b z) σ h = (ev Ca a σ h).bind fun v h1 => (ev Ca b σ h1).bind fun w h2 => (cmpV c v w h2).bind fun r h3 => match r with
    | .bl true => (ev Ca z σ h3).bind fun z h4 => cmpV d w z h4
    | .bl false => .ok (.bl false) h3
    | _ => .bad := rfl
  rw [q]
  have e : ((preT a (bev C a) bs).bind fun x s1 => (preT b (bev C b) s1).bind fun y s2 => op1 x s2 fun t _ => op1 y s2 fun u _ => match cmpT c t u with
    | some true => (preT z (bev C z) s2).bind fun z s3 => op1 y s3 fun u _ => op1 z s3 fun w _ => blB (cmpT d u w) s3
    | some false => .ok ⟨.bl false, true, false⟩ s2
    | none => .bad) = .ok y bs' := e
  obtain ⟨x1, s1, e1, e⟩ := rb_bind e
  obtain ⟨h1, v, O1, ow1, q1, B1, q3, p1⟩ := pre_ok ha B e1
  obtain ⟨x2, s2, e2, e⟩ := rb_bind e
  obtain ⟨h2, w, O2, ow2, r1, B2, r3, p2⟩ := pre_ok hb B1 e2
  have p1 := p1.step B1 r3
  obtain ⟨t, f, f1, e⟩ := op1_ok e
  obtain ⟨u, g, f2, e⟩ := op1_ok e
  rw [q1]
  show Got _ _ _ _ _ _ _ ((ev Ca b σ h1).bind _) _ _ _
  rw [r1]
  show Got _ _ _ _ _ _ _ ((cmpV c v w h2).bind _) _ _ _
  have s12 := Stp.trans B.lt q3 r3
  split at e
  · rename_i ec
    rw [cmp_ok (P := Pd O2 n0 false) c (any_top (p1.fin B2 f1)) (any_top (p2.fin B2 f2)) ec]
    obtain ⟨x3, s3, e3, e⟩ := rb_bind e
    obtain ⟨h3, y3, O3, ow3, t1, B3, t3, p3⟩ := pre_ok hz B2 e3
    have p2 := p2.step B2 t3
    obtain ⟨u', g', f3, e⟩ := op1_ok e
    obtain ⟨w', k', f4, e⟩ := op1_ok e
    obtain ⟨r, e4, rfl, rfl⟩ := blB_ok e
    show Got _ _ _ _ _ _ _ ((ev Ca z σ h2).bind _) _ _ _
    rw [t1]
    show Got _ _ _ _ _ _ _ (cmpV d w y3 h3) _ _ _
    rw [cmp_ok (P := Pd O3 n0 false) d (any_top (p2.fin B3 f3)) (any_top (p3.fin B3 f4)) e4]
    exact (Got.after B (.trans B.lt s12 t3) (got_atom (nm := fun _ => true) B3 fun P => .bl _)).nm fun j hj => by
      have hj : (nmE j a && (nmE j b && nmE j z)) = true := hj
      simp only [Bool.and_eq_true] at hj ⊢
      exact ⟨⟨⟨hj.1, hj.2.1⟩, hj.2.2⟩, trivial⟩
  · rename_i ec
    cases e
    rw [cmp_ok (P := Pd O2 n0 false) c (any_top (p1.fin B2 f1)) (any_top (p2.fin B2 f2)) ec]
    exact (Got.after B s12 (got_atom (nm := fun _ => true) B2 fun P => .bl _)).nm fun j hj => by
      have hj : (nmE j a && (nmE j b && nmE j z)) = true := hj
      simp only [Bool.and_eq_true] at hj ⊢
      exact ⟨⟨hj.1, hj.2.1⟩, trivial⟩
  · cases e
theorem isN_B {ng : Bool} {a : E} (ha : EvOk Ca C a) : EvOk Ca C (.isN ng a) := by
  intro n0 h σ bs bs' O ow sr y B e
  refine ev1 ha (kB := fun x s1 => op1 x s1 fun t _ => .ok ⟨.bl (ng ^^ isNonT t), true, false⟩ s1) (kA := fun x h1 => .ok (.bl (ng ^^ decide (x = .non))) h1) B e fun {x h1 v s1 O1 ow1 sr} B1 px e1 => ?_
  obtain ⟨t, f, e2, e1⟩ := op1_ok e1
  cases e1
  have r := px.fin B1 e2
  have : decide (v = .non) = isNonT t := by
    cases t with
    | lst ts => obtain ⟨l, xs, rfl, _⟩ := r; rfl
    | tup ts => obtain ⟨l, xs, rfl, _⟩ := r; rfl
    | dK ts => obtain ⟨l, xs, rfl, _⟩ := r; rfl
    | dT ts => obtain ⟨l, xs, rfl, _⟩ := r; rfl
    | _ => cases r; rfl
  rw [← this]
  exact got_atom B1 fun P => .bl _
theorem ife_B {t a b : E} (ht : EvOk Ca C t) (ha : EvOk Ca C a) (hb : EvOk Ca C b) : EvOk Ca C (.ife t a b) := by
  intro n0 h σ bs bs' O ow sr y B e
  have q : ev Ca (.ife t a b) σ h = (ev Ca t σ h).bind fun v h1 => (liftO (truV v h1) h1).bind fun k h2 => if k = true then ev Ca a σ h2 else ev Ca b σ h2 := by
    show ((ev Ca t σ h).bind fun v h1 => liftO (truV v h1) h1).bind _ = _
    cases ev Ca t σ h <;> rfl
  rw [q]
  have e : ((preT t (bev C t) bs).bind fun x s1 => (truB x s1).bind fun k s2 => if k = true then bev C a s2 else bev C b s2) = .ok y bs' := e
  obtain ⟨x1, s1, e1, e⟩ := rb_bind e
  obtain ⟨h1, v, O1, ow1, q1, B1, q3, p1⟩ := pre_ok ht B e1
  obtain ⟨k, s2, e2, e⟩ := rb_bind e
  obtain ⟨e4, rfl⟩ := truB_ok B1 p1 e2
  rw [q1]
  show Got _ _ _ _ _ _ _ ((liftO (truV v h1) h1).bind _) _ _ _
  rw [e4]
  cases k with
  | true =>
    rw [if_pos rfl] at e
    exact (Got.after B q3 (ha B1 e)).nm fun j hj => by
      have hj : (nmE j t && (nmE j a && nmE j b)) = true := hj
      simp only [Bool.and_eq_true] at hj ⊢
      exact ⟨hj.1, hj.2.1⟩
  | false =>
    rw [if_neg Bool.false_ne_true] at e
    exact (Got.after B q3 (hb B1 e)).nm fun j hj => by
      have hj : (nmE j t && (nmE j a && nmE j b)) = true := hj
      simp only [Bool.and_eq_true] at hj ⊢
      exact ⟨hj.1, hj.2.2⟩
theorem ty_eq {P : PP} {v : Va} {t : Tr} (r : RTop P h v t) : tyOf v h = tyT t := by
  cases t with
  | lst ts => obtain ⟨l, xs, rfl, q, _⟩ := r; unfold tyOf; simp only [q]; rfl
  | tup ts => obtain ⟨l, xs, rfl, q, _⟩ := r; unfold tyOf; simp only [q]; rfl
  | dK ts => obtain ⟨l, xs, rfl, q, _⟩ := r; unfold tyOf; simp only [q]; rfl
  | dT ts => obtain ⟨l, xs, rfl, q, _⟩ := r; unfold tyOf; simp only [q]; rfl
  | _ => cases r; rfl
theorem inst_ok {P : PP} {v : Va} {t : Tr} {ts : List Ty} {k : Bool} (r : RTop P h v t) (e : instT ts t = some k) : instV ts v h = .ok (.bl k) h := by
  have e1 : (∀ j, isTy v h j = isTyT t j) := fun j => by
    unfold isTy isTyT
    rw [ty_eq r]
    all_goals rfl
  have e2 : tyOk v h = true ∧ k = ts.any (isTyT t) := by
    cases t with
    | lst us => obtain ⟨l, xs, rfl, q, _⟩ := r; cases e; unfold tyOk; simp only [q]; exact ⟨trivial, trivial⟩
    | tup us => obtain ⟨l, xs, rfl, q, _⟩ := r; cases e; unfold tyOk; simp only [q]; exact ⟨trivial, trivial⟩
    | dK us => obtain ⟨l, xs, rfl, q, _⟩ := r; cases e; unfold tyOk; simp only [q]; exact ⟨trivial, trivial⟩
    | dT us => obtain ⟨l, xs, rfl, q, _⟩ := r; cases e; unfold tyOk; simp only [q]; exact ⟨trivial, trivial⟩
    | scr => cases e
    | _ => cases r; cases e; exact ⟨rfl, rfl⟩
  unfold instV
  rw [if_pos e2.1, e2.2]
  congr 3
  funext j
  exact e1 j
theorem inst_B {a : E} {ts : List Ty} (ha : EvOk Ca C a) : EvOk Ca C (.inst a ts) := by
  intro n0 h σ bs bs' O ow sr y B e
  refine ev1 ha (kB := fun x s1 => op1 x s1 fun t _ => blB (instT ts t) s1) (kA := instV ts) B e fun {x h1 v s1 O1 ow1 sr} B1 px e1 => ?_
  obtain ⟨t, f, e2, e1⟩ := op1_ok e1
  obtain ⟨r, e4, rfl, rfl⟩ := blB_ok e1
  rw [inst_ok (px.fin B1 e2) e4]
  exact got_atom B1 fun P => .bl _
theorem idx_B {a b : E} (ha : EvOk Ca C a) (hb : EvOk Ca C b) : EvOk Ca C (.idx a b) := by
  intro n0 h σ bs bs' O ow sr y B e
  refine ev2 ha hb (kB := fun x y s2 => op1 x s2 fun t f => op1 y s2 fun u _ => oldB (idxT t u) f s2) (kA := idxV) B e fun {x z h1 v w s1 O1 ow1 sr} B1 px pz e1 => ?_
  obtain ⟨t, f, e2, e1⟩ := op1_ok e1
  obtain ⟨u, g, e3, e1⟩ := op1_ok e1
  obtain ⟨r, e4, rfl, rfl⟩ := oldB_ok e1
  obtain ⟨w', q, rr⟩ := idx_ok (px.fin B1 e2) (pz.fin B1 e3) e4
  rw [q]
  exact got_old B1 rr
theorem rev_B {a : E} (ha : EvOk Ca C a) : EvOk Ca C (.rev a) := by
  intro n0 h σ bs bs' O ow sr y B e
  refine ev1 ha (kB := fun x s1 => op1 x s1 fun t f => newB (revT t) f s1) (kA := revV) B e fun {x h1 v s1 O1 ow1 sr} B1 px e1 => ?_
  obtain ⟨t, f, e2, e1⟩ := op1_ok e1
  obtain ⟨r, e4, rfl, rfl⟩ := newB_ok e1
  exact got_new B1 (rev_ok (px.fin B1 e2) e4)
theorem dnew_B : EvOk Ca C .dnew := by
  intro n0 h σ bs bs' O ow sr y B e
  cases e
  have q : ResOk (Pd O n0 true) h (alloc (.dK []) h) (.dK []) := new_dK rfl .nil
  exact got_new B q
theorem cst_B {v : Va} : EvOk Ca C (.cst v) := by
  intro n0 h σ bs bs' O ow sr y B e
  unfold bev at e
  split at e
  · rename_i t et
    cases e
    have : ∀ P : PP, Rd' P h v t := fun P => by
      cases v <;> first
        | (cases et; done)
        | (cases et; first | exact .non | exact .bl _ | exact .int _ | exact .str _)
    exact got_atom B this
  · cases e
theorem items_ok {P : PP} {l : Nat} {kts : List (Key × Tr)} (r : RTop P h (.ref l) (.dK kts)) : ResOk P h (itemsV (.ref l) h) (.lst (kts.map fun p => .tup [keyTr p.1, p.2])) := by
  obtain ⟨l', kvs, e, q, e1, r⟩ := r
  cases e
  have ev_ : itemsV (.ref l) h = .ok (.ref (h.length + kvs.length)) (h ++ (kvs.map (fun p => Ob.tup [keyVa p.1, p.2]) ++ [.lst ((List.range kvs.length).map fun i => .ref (h.length + i))])) := by
    unfold itemsV
    simp only [q, List.append_assoc]
  rw [ev_]
  have hlen := keysLen e1
  refine .new _ (Nat.le_add_right _ _) ⟨_, (List.range kvs.length).map fun i => .ref (h.length + i), rfl, ?_, ?_⟩
  · rw [List.getElem?_append_right (by omega), List.getElem?_append_right (by simp)]
    simp
  · have go : ∀ (n : Nat) (kvs0 : List (Key × Va)) (kts0 : List (Key × Tr)), kvs0 = kvs.drop n → kts0 = kts.drop n → Rds (PN P h (h.length + kvs.length)) (h ++ (kvs.map (fun p => Ob.tup [keyVa p.1, p.2]) ++ [.lst ((List.range kvs.length).map fun i => .ref (h.length + i))])) ((List.range kvs0.length).map fun i => .ref (h.length + (n + i))) (kts0.map fun p => .tup [keyTr p.1, p.2]) := by
      intro n kvs0
      induction kvs0 generalizing n with
      | nil =>
        intro kts0 h1 h2
        have : kts0 = [] := by
          have l1 := congrArg List.length h1
          have l2 := congrArg List.length h2
          rw [List.length_drop] at l1 l2
          simp at l1
          exact List.eq_nil_of_length_eq_zero (by omega)
        rw [this]
        exact .nil
      | cons kv kvs0 ih =>
        intro kts0 h1 h2
        cases kts0 with
        | nil =>
          have l1 := congrArg List.length h1
          have l2 := congrArg List.length h2
          rw [List.length_drop] at l1 l2
          simp at l1 l2
          omega
        | cons kt kts0 =>
          have g1 : kvs[n]? = some kv := by rw [← List.head?_drop, ← h1]; rfl
          have g2 : kts[n]? = some kt := by rw [← List.head?_drop, ← h2]; rfl
          have hn : n < kvs.length := (List.getElem?_eq_some_iff.mp g1).1
          rw [List.length_cons, List.range_succ_eq_map, List.map_cons, List.map_cons, List.map_map]
          refine .cons ?_ ?_
          · have k1 : kv.1 = kt.1 := by
              have a1 : (kvs.map (·.1))[n]? = some kv.1 := by rw [List.getElem?_map, g1]; rfl
              have a2 : (kts.map (·.1))[n]? = some kt.1 := by rw [List.getElem?_map, g2]; rfl
              rw [e1, a2] at a1
              exact (Option.some.inj a1).symm
            obtain ⟨v, b1, b2⟩ := r.get (i := n) (t := kt.2) (by rw [List.getElem?_map, g2]; rfl)
            have b3 : v = kv.2 := by rw [List.getElem?_map, g1] at b1; exact (Option.some.inj b1).symm
            subst b3
            refine .tup (xs := [keyVa kv.1, kv.2]) ⟨.inr (Nat.le_add_right _ _), by omega⟩ ?_ (.cons ?_ (.cons (b2.pn (Nat.le_add_right _ _)) .nil))
            · rw [List.getElem?_append_right (by omega), List.getElem?_append_left (by simp; omega)]
              simp [g1]
            · rw [k1]; exact keyTr_rel _
          · have z := ih (n + 1) kts0 (by rw [← List.tail_drop, ← h1]; rfl) (by rw [← List.tail_drop, ← h2]; rfl)
            have ef : ((fun i => Va.ref (h.length + (n + i))) ∘ Nat.succ) = fun i => Va.ref (h.length + (n + 1 + i)) := by
              funext i
              show Va.ref (h.length + (n + (i + 1))) = _
              rw [show n + (i + 1) = n + 1 + i by omega]
            rw [ef]
            exact z
    have z := go 0 kvs kts rfl rfl
    simp only [Nat.zero_add] at z
    exact z
theorem items_B {a : E} (ha : EvOk Ca C a) : EvOk Ca C (.items a) := by
  intro n0 h σ bs bs' O ow sr y B e
  refine ev1 ha (kB := fun x s1 => op1 x s1 fun t f => match t with
    | .dK kvs => .ok (mkNew (.lst (kvs.map fun p => .tup [keyTr p.1, p.2])) f) s1
    | _ => .bad) (kA := itemsV) B e fun {x h1 v s1 O1 ow1 sr} B1 px e1 => ?_
  obtain ⟨t, f, e2, e1⟩ := op1_ok e1
  have r := px.fin B1 e2
  split at e1
  · cases e1
    obtain ⟨l, kvs, rfl, q⟩ := r
    exact got_new B1 (items_ok ⟨l, kvs, rfl, q⟩)
  · cases e1
end
end HA

namespace HA
open PySem PySem.Spec PyProof.Rows L2
section
variable {n0 : Nat} {h : Hh} {σ : Sl} {bs bs' : BS} {O : List Nat} {ow : Ow} {sr : So} {Ca : Cf} {C : Cb}

/-! ### several parts -/
/-- values that are kept: those of their own at labels to avoid -/
inductive LvsP (n0 n1 : Nat) (h : Hh) (O : List Nat) (ow : Ow) (sr : So) : List Va → List Lv → List Nat → Prop where
  | nil : LvsP n0 n1 h O ow sr [] [] []
  | old {v : Va} {x : Lv} {vs : List Va} {xs : List Lv} {ls : List Nat} (u : x.uq = false) (r : Rd' (Pd O n0 x.fr) h v x.t) (t : LvsP n0 n1 h O ow sr vs xs ls) : LvsP n0 n1 h O ow sr (v :: vs) (x :: xs) ls
  | new {l : Nat} {x : Lv} {vs : List Va} {xs : List Lv} {ls : List Nat} (u : x.uq = true) (m : mutT x.t = true) (hl : n1 ≤ l) (hO : l ∈ O) (no : ¬ isOwn ow l) (ns : ¬ isStr sr l) (nl : l ∉ ls) (r : RTop (Pd O n0 x.fr) h (.ref l) x.t) (t : LvsP n0 n1 h O ow sr vs xs ls) :
      LvsP n0 n1 h O ow sr (.ref l :: vs) (x :: xs) (l :: ls)
theorem LvsP.len {n1 : Nat} {vs : List Va} {xs : List Lv} {ls : List Nat} (q : LvsP n0 n1 h O ow sr vs xs ls) : vs.length = xs.length := by
  induction q with
  | nil => rfl
  | old _ _ _ ih => rw [List.length_cons, List.length_cons, ih]
  | new _ _ _ _ _ _ _ _ _ ih => rw [List.length_cons, List.length_cons, ih]
theorem LvsP.le {n1 n2 : Nat} {vs : List Va} {xs : List Lv} {ls : List Nat} (q : LvsP n0 n1 h O ow sr vs xs ls) (w : n2 ≤ n1) : LvsP n0 n2 h O ow sr vs xs ls := by
  induction q with
  | nil => exact .nil
  | old u r _ ih => exact .old u r ih
  | new u m hl hO no ns nl r _ ih => exact .new u m (Nat.le_trans w hl) hO no ns nl r ih
theorem LvsP.ge {n1 : Nat} {vs : List Va} {xs : List Lv} {ls : List Nat} (q : LvsP n0 n1 h O ow sr vs xs ls) : ∀ l ∈ ls, n1 ≤ l ∧ l ∈ O ∧ ¬ isOwn ow l ∧ ¬ isStr sr l := by
  induction q with
  | nil => intro l z; cases z
  | old u r _ ih => exact ih
  | new u m hl hO no ns nl r _ ih =>
    intro l z
    rcases List.mem_cons.mp z with rfl | z
    · exact ⟨hl, hO, no, ns⟩
    · exact ih l z
structure GotL (n0 : Nat) (h : Hh) (σ : Sl) (bs : BS) (O : List Nat) (ow : Ow) (sr : So) (r : RE (List Va)) (xs : List Lv) (nm : Nat → Bool) (bs' : BS) : Prop where
  ex : ∃ h' vs ls O' ow', r = .ok vs h' ∧ BR n0 h' σ bs' O' ow' sr ∧ Stp h O ow sr h' O' ow' sr nm ∧ LvsP n0 h.length h' O' ow' sr vs xs ls
/-- given away: none is of its own -/
theorem LvsP.forget {n1 : Nat} {vs : List Va} {xs : List Lv} {ls : List Nat} (B : BR n0 h σ bs O ow sr) (hn : n0 ≤ n1) (q : LvsP n0 n1 h O ow sr vs xs ls) :
    ∃ O', BR n0 h σ bs O' ow sr ∧ (∀ l, l ∈ O' → l ∈ O) ∧ (∀ l, l ∈ O → l < n1 → l ∈ O') ∧ Rds (Pd O' n0 (lvsF xs)) h vs (lvsT xs) ∧ ∀ (i : Nat) (x : Lv), xs[i]? = some x → ∃ v, vs[i]? = some v ∧ Rd' (Pd O' n0 x.fr) h v x.t := by
  have hge := q.ge
  have sub : ∀ x, x ∈ O.filter (fun x => decide (x ∉ ls)) → x ∈ O := fun x z => (List.mem_filter.mp z).1
  have nin : ∀ l, l ∈ ls → l ∉ O.filter (fun x => decide (x ∉ ls)) := fun l hl z => by
    have := of_decide_eq_true (List.mem_filter.mp z).2
    exact this hl
  have B' : BR n0 h σ bs (O.filter (fun x => decide (x ∉ ls))) ow sr := B.less sub (fun x z => List.mem_filter.mpr ⟨(B.inO x z).1, decide_eq_true fun w => (hge x w).2.2.1 z⟩) (fun x z => List.mem_filter.mpr ⟨B.sO x z, decide_eq_true fun w => (hge x w).2.2.2 z⟩)
  have one : ∀ {vs : List Va} {xs : List Lv} {ls' : List Nat}, LvsP n0 n1 h O ow sr vs xs ls' → (∀ l, l ∈ ls' → l ∈ ls) → Rds (Pd (O.filter (fun x => decide (x ∉ ls))) n0 (lvsF xs)) h vs (lvsT xs) ∧ ∀ (i : Nat) (x : Lv), xs[i]? = some x → ∃ v, vs[i]? = some v ∧ Rd' (Pd (O.filter (fun x => decide (x ∉ ls))) n0 x.fr) h v x.t := by
    intro vs xs ls' q
    have wk : ∀ {x : Lv} {xs : List Lv} {vs : List Va}, Rds (Pd (O.filter (fun x => decide (x ∉ ls))) n0 (lvsF xs)) h vs (lvsT xs) → Rds (Pd (O.filter (fun x => decide (x ∉ ls))) n0 (lvsF (x :: xs))) h vs (lvsT xs) := fun {x xs vs} r => r.imp fun l m o p q => ⟨⟨p.1, fun z => p.2 (by
      have z : (x.fr && lvsF xs) = true := z
      rw [Bool.and_eq_true] at z; exact z.2)⟩, q⟩
    have wk1 : ∀ {x : Lv} {xs : List Lv} {v : Va}, Rd' (Pd (O.filter (fun x => decide (x ∉ ls))) n0 x.fr) h v x.t → Rd' (Pd (O.filter (fun x => decide (x ∉ ls))) n0 (lvsF (x :: xs))) h v x.t := fun {x xs v} r => r.imp fun l m o p q => ⟨⟨p.1, fun z => p.2 (by
      have z : (x.fr && lvsF xs) = true := z
      rw [Bool.and_eq_true] at z; exact z.1)⟩, q⟩
    induction q with
    | nil => intro _; exact ⟨.nil, fun i x e => by simp at e⟩
    | old u r _ ih =>
      intro w
      obtain ⟨i1, i2⟩ := ih w
      refine ⟨.cons (wk1 (r.less sub)) (wk i1), fun i x e => ?_⟩
      cases i with
      | zero => cases e; exact ⟨_, rfl, r.less sub⟩
      | succ i => exact i2 i x e
    | new u m hl hO no ns nl r _ ih =>
      intro w
      obtain ⟨i1, i2⟩ := ih fun l z => w l (List.mem_cons_of_mem _ z)
      have r' := (r.less sub).rd ⟨nin _ (w _ List.mem_cons_self), fun _ _ => Nat.le_trans hn hl⟩
      refine ⟨.cons (wk1 r') (wk i1), fun i x e => ?_⟩
      cases i with
      | zero => cases e; exact ⟨_, rfl, r'⟩
      | succ i => exact i2 i x e
  obtain ⟨a, b⟩ := one q fun _ z => z
  exact ⟨_, B', sub, fun l z w => List.mem_filter.mpr ⟨z, decide_eq_true fun x => by have := (hge l x).1; omega⟩, a, b⟩
/-- they persist -/
theorem LvsP.step {n1 : Nat} {h' : Hh} {O' : List Nat} {ow' : Ow} {nm : Nat → Bool} {vs : List Va} {xs : List Lv} {ls : List Nat} (B : BR n0 h σ bs O ow sr) (s : Stp h O ow sr h' O' ow' sr nm) (q : LvsP n0 n1 h O ow sr vs xs ls) : LvsP n0 n1 h' O' ow' sr vs xs ls := by
  induction q with
  | nil => exact .nil
  | old u r _ ih => exact .old u (Rd'.step B s r) ih
  | new u m hl hO no ns nl r _ ih =>
    refine .new u m hl (s.oin _ hO no) (fun ⟨j, z⟩ => ?_) (fun z => ?_) nl (RTop.step B s (fun j z => absurd ⟨j, z⟩ no) ns r) ih
    · rcases s.own j _ z with z | z
      · exact no ⟨j, z⟩
      · have := B.lt _ hO; omega
    · rcases s.str _ z with z | z
      · exact ns z
      · have := B.lt _ hO; omega
theorem LvP.cons {n1 : Nat} {v : Va} {x : Lv} {vs : List Va} {xs : List Lv} {ls : List Nat} (q : LvP n0 n1 h O ow sr v x) (t : LvsP n0 n1 h O ow sr vs xs ls) (nl : ∀ l, v = .ref l → l ∈ ls → False) : ∃ ls', LvsP n0 n1 h O ow sr (v :: vs) (x :: xs) ls' := by
  unfold LvP at q
  split at q
  · rename_i hu
    obtain ⟨m, l, rfl, a, b, c, d, r⟩ := q
    exact ⟨_, .new hu m a b c d (fun z => nl l rfl z) r t⟩
  · rename_i hu
    rw [Bool.not_eq_true] at hu
    exact ⟨_, .old hu q t⟩
def EvsOk (Ca : Cf) (C : Cb) (e : Es) : Prop := ∀ {n0 : Nat} {h : Hh} {σ : Sl} {bs bs' : BS} {O : List Nat} {ow : Ow} {sr : So} {xs : List Lv}, BR n0 h σ bs O ow sr → bevs C e bs = .ok xs bs' → GotL n0 h σ bs O ow sr (evs Ca e σ h) xs (fun j => nmEs j e) bs'
theorem evs_nil : EvsOk Ca C .nil := by
  intro n0 h σ bs bs' O ow sr xs B e
  cases e
  exact ⟨h, [], [], O, ow, rfl, B, .refl, .nil⟩
theorem evs_cons {e : E} {r : Es} (he : EvOk Ca C e) (hr : EvsOk Ca C r) : EvsOk Ca C (.cons e r) := by
  intro n0 h σ bs bs' O ow sr xs B e0
  have e0 : ((bev C e bs).bind fun x s1 => (bevs C r s1).bind fun xs s2 => .ok (x :: xs) s2) = .ok xs bs' := e0
  obtain ⟨x, s1, e1, e0⟩ := rb_bind e0
  obtain ⟨h1, v, O1, ow1, q1, B1, q3, p1⟩ := he B e1
  obtain ⟨ys, s2, e2, e0⟩ := rb_bind e0
  cases e0
  obtain ⟨h2, vs, ls, O2, ow2, r1, B2, r3, p2⟩ := hr B1 e2
  have p1' : LvP n0 h.length h2 O2 ow2 sr v x := by
    unfold LvP at p1 ⊢
    split at p1
    · rename_i hu
      rw [if_pos hu]
      obtain ⟨m, l, rfl, a, b, c, d, r⟩ := p1
      refine ⟨m, l, rfl, a, r3.oin _ b c, fun ⟨j, z⟩ => ?_, fun z => ?_, RTop.step B1 r3 (fun j z => absurd ⟨j, z⟩ c) d r⟩
      · rcases r3.own j _ z with z | z
        · exact c ⟨j, z⟩
        · have := B1.lt _ b; omega
      · rcases r3.str _ z with z | z
        · exact d z
        · have := B1.lt _ b; omega
    · rename_i hu
      rw [if_neg hu]
      exact Rd'.step B1 r3 p1
  have hv : ∀ l, v = .ref l → l ∈ ls → False := fun l e z => by
    have h3 := (p2.ge l z).1
    subst e
    unfold LvP at p1
    split at p1
    · obtain ⟨m, l', e, a, b, _⟩ := p1
      cases e
      have := B1.lt _ b; omega
    · have : l < h1.length := by
        have r := Rd'.top p1
        cases ht : x.t with
        | lst ts => rw [ht] at r; obtain ⟨l', xs, e, q, _⟩ := r; cases e; exact lt_of_get q
        | tup ts => rw [ht] at r; obtain ⟨l', xs, e, q, _⟩ := r; cases e; exact lt_of_get q
        | dK ts => rw [ht] at r; obtain ⟨l', xs, e, q, _⟩ := r; cases e; exact lt_of_get q
        | dT ts => rw [ht] at r; obtain ⟨l', xs, e, q, _⟩ := r; cases e; exact lt_of_get q
        | non => rw [ht] at r; cases r
        | bl b => rw [ht] at r; cases r
        | int b => rw [ht] at r; cases r
        | str b => rw [ht] at r; cases r
        | scr => rw [ht] at r; cases r
      omega
  obtain ⟨ls', p3⟩ := p1'.cons (p2.le q3.len) hv
  refine ⟨h2, v :: vs, ls', O2, ow2, ?_, B2, (Stp.trans B.lt q3 r3), p3⟩
  show (ev Ca e σ h).bind _ = _
  rw [q1]
  show (evs Ca r σ h1).bind _ = _
  rw [r1]
  rfl
theorem ySeq_ok {l0 : Va} {t : Tr} {fr : Bool} {ys : List Lv} (r : RTop (Pd O n0 fr) h l0 t) (e : ySeq t fr = some ys) : ∃ l vs, l0 = .ref l ∧ Rds (Pd O n0 fr) h vs (lvsT ys) ∧ ys = (lvsT ys).map (fun x => mkOld x fr) ∧
    (((∃ ts, t = .lst ts) ∧ h[l]? = some (.lst vs) ∧ seqOf h l0 = some ([(l, .lst vs)], vs)) ∨ ((∃ ts, t = .tup ts) ∧ h[l]? = some (.tup vs) ∧ seqOf h l0 = some ([(l, .tup vs)], vs))) := by
  have e2 : ∀ xs : List Tr, lvsT (xs.map fun x => mkOld x fr) = xs := fun xs => by
    unfold lvsT
    rw [List.map_map]
    have : ((fun x : Lv => x.t) ∘ fun x => mkOld x fr) = id := rfl
    rw [this, List.map_id]
  unfold ySeq at e
  split at e
  · cases e
    obtain ⟨l, xs, rfl, q, r⟩ := r
    refine ⟨l, xs, rfl, by rw [e2]; exact r, by rw [e2], .inl ⟨⟨_, rfl⟩, q, ?_⟩⟩
    unfold seqOf; simp only [q]
  · cases e
    obtain ⟨l, xs, rfl, q, r⟩ := r
    refine ⟨l, xs, rfl, by rw [e2]; exact r, by rw [e2], .inr ⟨⟨_, rfl⟩, q, ?_⟩⟩
    unfold seqOf; simp only [q]
  · cases e
theorem olds_P {n1 : Nat} {fr : Bool} : ∀ {vs : List Va} {ts : List Tr}, Rds (Pd O n0 fr) h vs ts → LvsP n0 n1 h O ow sr vs (ts.map fun x => mkOld x fr) []
  | _, _, .nil => .nil
  | _, _, .cons a r => .old rfl (show Rd' (Pd O n0 (fr || imm _)) h _ _ from a.old) (olds_P r)
theorem LvsP.app0 {n1 : Nat} {vs ws : List Va} {xs ys : List Lv} {ls : List Nat} (a : LvsP n0 n1 h O ow sr vs xs []) (b : LvsP n0 n1 h O ow sr ws ys ls) : LvsP n0 n1 h O ow sr (vs ++ ws) (xs ++ ys) ls := by
  generalize hl : ([] : List Nat) = l0 at a
  induction a with
  | nil => exact b
  | old u r _ ih => exact .old u r (ih hl)
  | new _ _ _ _ _ _ _ _ _ _ => cases hl
theorem evs_star {e : E} {r : Es} (he : EvOk Ca C e) (hr : EvsOk Ca C r) : EvsOk Ca C (.star e r) := by
  intro n0 h σ bs bs' O ow sr xs B e0
  have e0 : ((bev C e bs).bind fun x s1 => match ySeq x.t x.fr with
    | some ys => (bevs C r s1).bind fun xs s2 => .ok (ys ++ xs) s2
    | none => .bad) = .ok xs bs' := e0
  obtain ⟨x, s1, e1, e0⟩ := rb_bind e0
  obtain ⟨h1, v, O1, ow1, q1, B1, q3, p1⟩ := (he B e1).forget B
  split at e0
  · rename_i ys ey
    obtain ⟨zs, s2, e2, e0⟩ := rb_bind e0
    cases e0
    obtain ⟨h2, vs, ls, O2, ow2, r1, B2, r3, p2⟩ := hr B1 e2
    obtain ⟨l, us, rfl, ru, ey2, cs⟩ := ySeq_ok p1.top ey
    have es : ∃ s, seqOf h1 (.ref l) = some (s, us) := by
      rcases cs with ⟨_, _, c⟩ | ⟨_, _, c⟩
      · exact ⟨_, c⟩
      · exact ⟨_, c⟩
    obtain ⟨s, es⟩ := es
    have ru2 : Rds (Pd O2 n0 x.fr) h2 us (lvsT ys) := ru.imp fun l m o p q => by
      obtain ⟨n1, n2⟩ := B1.avoid p.1
      refine ⟨⟨fun z => ?_, p.2⟩, r3.keep l o q n2 fun j hj => absurd ⟨j, hj⟩ n1⟩
      rcases r3.oout l z with z | z
      · exact p.1 z
      · have := lt_of_get q; omega
    refine ⟨h2, us ++ vs, ls, O2, ow2, ?_, B2, (Stp.trans B.lt q3 r3), ?_⟩
    · show (ev Ca e σ h).bind _ = _
      rw [q1]
      show (match seqOf h1 (.ref l) with
        | some (_, ys) => (evs Ca r σ h1).bind fun xs h2 => RE.ok (ys ++ xs) h2
        | none => .bad) = _
      rw [es]
      simp only []
      rw [r1]
      rfl
    · rw [ey2]
      exact LvsP.app0 (olds_P ru2) (p2.le q3.len)
  · cases e0
theorem lst_B {as : Es} (ha : EvsOk Ca C as) : EvOk Ca C (.lst as) := by
  intro n0 h σ bs bs' O ow sr y B e
  have e : ((bevs C as bs).bind fun xs s1 => if xs.length ≤ BIG then .ok (mkNew (.lst (lvsT xs)) (lvsF xs)) s1 else .bad) = .ok y bs' := e
  obtain ⟨xs, s1, e1, e⟩ := rb_bind e
  obtain ⟨h1, vs, ls, O1, ow1, q1, B1, q3, p1⟩ := ha B e1
  split at e
  · rename_i hz
    cases e
    obtain ⟨O2, B2, w1, w2, r, _⟩ := p1.forget B1 B.n0
    have s2 : Stp h O ow sr h1 O2 ow1 sr (fun j => nmEs j as) := ⟨q3.len, q3.keep, fun l z no => w2 l (q3.oin l z no) (B.lt l z), fun l z => q3.oout l (w1 l z), q3.own, q3.str⟩
    have ea : ev Ca (.lst as) σ h = alloc (.lst vs) h1 := by
      show (evs Ca as σ h).bind _ = _
      rw [q1]
      show (if vs.length ≤ BIG then _ else _) = _
      rw [if_pos (by rw [p1.len]; exact hz)]
    rw [ea]
    exact (Got.after B s2 (got_new (nm := fun _ => true) B2 (new_lst r))).nm fun j hj => by rw [Bool.and_true]; exact hj
  · cases e
theorem tup_B {as : Es} (ha : EvsOk Ca C as) : EvOk Ca C (.tup as) := by
  intro n0 h σ bs bs' O ow sr y B e
  have e : ((bevs C as bs).bind fun xs s1 => if xs.length ≤ BIG then .ok (mkNew (.tup (lvsT xs)) (lvsF xs)) s1 else .bad) = .ok y bs' := e
  obtain ⟨xs, s1, e1, e⟩ := rb_bind e
  obtain ⟨h1, vs, ls, O1, ow1, q1, B1, q3, p1⟩ := ha B e1
  split at e
  · rename_i hz
    cases e
    obtain ⟨O2, B2, w1, w2, r, _⟩ := p1.forget B1 B.n0
    have s2 : Stp h O ow sr h1 O2 ow1 sr (fun j => nmEs j as) := ⟨q3.len, q3.keep, fun l z no => w2 l (q3.oin l z no) (B.lt l z), fun l z => q3.oout l (w1 l z), q3.own, q3.str⟩
    have ea : ev Ca (.tup as) σ h = alloc (.tup vs) h1 := by
      show (evs Ca as σ h).bind _ = _
      rw [q1]
      show (if vs.length ≤ BIG then _ else _) = _
      rw [if_pos (by rw [p1.len]; exact hz)]
    rw [ea]
    exact (Got.after B s2 (got_new (nm := fun _ => true) B2 (new_tup r))).nm fun j hj => by rw [Bool.and_true]; exact hj
  · cases e
end
end HA

namespace HA
open PySem PySem.Spec PyProof.Rows L2
section
variable {n0 : Nat} {h : Hh} {σ : Sl} {bs bs' : BS} {O : List Nat} {ow : Ow} {sr : So} {Ca : Cf} {C : Cb}

/-! ### arguments that are looked at -/
inductive PvsP (n0 : Nat) (h : Hh) (σ : Sl) (O : List Nat) : List Va → List (Nat ⊕ Lv) → Prop where
  | nil : PvsP n0 h σ O [] []
  | cons {v : Va} {x : Nat ⊕ Lv} {vs : List Va} {xs : List (Nat ⊕ Lv)} (a : PvP n0 h σ O v x) (r : PvsP n0 h σ O vs xs) : PvsP n0 h σ O (v :: vs) (x :: xs)
theorem PvsP.len {vs : List Va} {xs : List (Nat ⊕ Lv)} (p : PvsP n0 h σ O vs xs) : vs.length = xs.length := by
  induction p with
  | nil => rfl
  | cons _ _ ih => rw [List.length_cons, List.length_cons, ih]
theorem PvsP.step {h' : Hh} {O' : List Nat} {ow' : Ow} {nm : Nat → Bool} {vs : List Va} {xs : List (Nat ⊕ Lv)} (B : BR n0 h σ bs O ow sr) (s : Stp h O ow sr h' O' ow' sr nm) (p : PvsP n0 h σ O vs xs) : PvsP n0 h' σ O' vs xs := by
  induction p with
  | nil => exact .nil
  | cons a _ ih => exact .cons (a.step B s) ih
theorem RTops.wk {f g : Bool} {vs : List Va} {ts : List Tr} (w : g = true → f = true) (r : RTops (Pd O n0 f) h vs ts) : RTops (Pd O n0 g) h vs ts := by
  induction r with
  | nil => exact .nil
  | cons a _ ih => exact .cons (a.imp (fun l m o p q => ⟨⟨p.1, fun z => p.2 (w z)⟩, q⟩) fun _ _ _ q => q) ih
theorem PvsP.fin {vs : List Va} {xs : List (Nat ⊕ Lv)} {ts : List Tr} {f : Bool} (B : BR n0 h σ bs O ow sr) (p : PvsP n0 h σ O vs xs) (e : finsT xs bs = some (ts, f)) : RTops (Pd O n0 f) h vs ts := by
  induction p generalizing ts f with
  | nil => cases e; exact .nil
  | cons a _ ih =>
    unfold finsT at e
    split at e
    · rename_i t f1 e1
      split at e
      · rename_i ts' g e2
        cases e
        refine .cons ((a.fin B e1).imp (fun l m o p q => ⟨⟨p.1, fun z => p.2 ?_⟩, q⟩) fun _ _ _ q => q) ((ih e2).wk fun z => ?_)
        · rw [Bool.and_eq_true] at z; first | exact z.1 | exact z.2
        · rw [Bool.and_eq_true] at z; first | exact z.2 | exact z.1
      · cases e
    · cases e
structure GotT (n0 : Nat) (h : Hh) (σ : Sl) (bs : BS) (O : List Nat) (ow : Ow) (sr : So) (r : RE (List Va)) (xs : List (Nat ⊕ Lv)) (nm : Nat → Bool) (bs' : BS) : Prop where
  ex : ∃ h' vs O' ow', r = .ok vs h' ∧ BR n0 h' σ bs' O' ow' sr ∧ Stp h O ow sr h' O' ow' sr nm ∧ PvsP n0 h' σ O' vs xs
def EvTOk (Ca : Cf) (C : Cb) (e : Es) : Prop := ∀ {n0 : Nat} {h : Hh} {σ : Sl} {bs bs' : BS} {O : List Nat} {ow : Ow} {sr : So} {xs : List (Nat ⊕ Lv)}, BR n0 h σ bs O ow sr → bevT C e bs = .ok xs bs' → GotT n0 h σ bs O ow sr (evs Ca e σ h) xs (fun j => nmEs j e) bs'
theorem evT_nil : EvTOk Ca C .nil := by
  intro n0 h σ bs bs' O ow sr xs B e
  cases e
  exact ⟨h, [], O, ow, rfl, B, .refl, .nil⟩
theorem evT_cons {e : E} {r : Es} (he : EvOk Ca C e) (hr : EvTOk Ca C r) : EvTOk Ca C (.cons e r) := by
  intro n0 h σ bs bs' O ow sr xs B e0
  have e0 : ((preT e (bev C e) bs).bind fun x s1 => (bevT C r s1).bind fun xs s2 => .ok (x :: xs) s2) = .ok xs bs' := e0
  obtain ⟨x, s1, e1, e0⟩ := rb_bind e0
  obtain ⟨h1, v, O1, ow1, q1, B1, q3, p1⟩ := pre_ok he B e1
  obtain ⟨ys, s2, e2, e0⟩ := rb_bind e0
  cases e0
  obtain ⟨h2, vs, O2, ow2, r1, B2, r3, p2⟩ := hr B1 e2
  refine ⟨h2, v :: vs, O2, ow2, ?_, B2, (Stp.trans B.lt q3 r3), .cons (p1.step B1 r3) p2⟩
  show (ev Ca e σ h).bind _ = _
  rw [q1]
  show (evs Ca r σ h1).bind _ = _
  rw [r1]
  rfl
theorem evT_star {e : E} {r : Es} : EvTOk Ca C (.star e r) := by
  intro n0 h σ bs bs' O ow sr xs B e0
  cases e0
theorem bi_B {b : Bi} {as : Es} (hn : Ca.ns = C.ns) (ha : EvTOk Ca C as) : EvOk Ca C (.bi b as) := by
  intro n0 h σ bs bs' O ow sr y B e
  have e : ((bevT C as bs).bind fun xs s1 => match finsT xs s1 with
    | some (ts, f) => newB (biT C.ns b ts) f s1
    | none => .bad) = .ok y bs' := e
  obtain ⟨xs, s1, e1, e⟩ := rb_bind e
  obtain ⟨h1, vs, O1, ow1, q1, B1, q3, p1⟩ := ha B e1
  split at e
  · rename_i ts f ef
    obtain ⟨t, e4, rfl, rfl⟩ := newB_ok e
    have ea : ev Ca (.bi b as) σ h = biF C.ns b vs h1 := by
      show (evs Ca as σ h).bind _ = _
      rw [q1, hn]; rfl
    rw [ea]
    exact (Got.after B q3 (got_new (nm := fun _ => true) B1 (bi_ok b (p1.fin B1 ef) e4))).nm fun j hj => by rw [Bool.and_true]; exact hj
  · cases e
theorem rngT_eq {P : PP} {vs : List Va} {ts : List Tr} {p : Int × Int} (r : RTops P h vs ts) (e : rngT ts = some p) : rngV vs = some p := by
  unfold rngT at e
  split at e
  · obtain ⟨v, rfl, rv⟩ := r.one
    cases rv
    split at e
    · rename_i hb; cases e; have hb := nin_iff.mp hb; unfold rngV; simp only []; rw [if_pos (by omega)]
    · cases e
  · obtain ⟨v, w, rfl, rv, rw_⟩ := r.two
    cases rv
    cases rw_
    split at e
    · rename_i hb; cases e; have h1 := nin_iff.mp hb.1; have h2 := nin_iff.mp hb.2; unfold rngV; simp only []; rw [if_pos (by omega)]
    · cases e
  · cases e
theorem lrng_B {as : Es} (ha : EvTOk Ca C as) : EvOk Ca C (.lrng as) := by
  intro n0 h σ bs bs' O ow sr y B e
  have e : ((bevT C as bs).bind fun xs s1 => match finsT xs s1 with
    | some (ts, _) => match rngT ts with
      | some (i, j) => if (j - i).toNat ≤ BIG then .ok ⟨.lst ((rngL i j).map .int), true, true⟩ s1 else .bad
      | none => .bad
    | none => .bad) = .ok y bs' := e
  obtain ⟨xs, s1, e1, e⟩ := rb_bind e
  obtain ⟨h1, vs, O1, ow1, q1, B1, q3, p1⟩ := ha B e1
  split at e
  · rename_i ts f ef
    split at e
    · rename_i i j er
      split at e
      · rename_i hz
        cases e
        have ea : ev Ca (.lrng as) σ h = alloc (.lst ((rngL i j).map .int)) h1 := by
          show (evs Ca as σ h).bind _ = _
          rw [q1]
          show (match rngV vs with
            | some (i, j) => if (j - i).toNat ≤ BIG then alloc (.lst ((rngL i j).map .int)) h1 else .bad
            | none => .bad) = _
          rw [rngT_eq (p1.fin B1 ef) er]
          simp only []
          rw [if_pos hz]
        rw [ea]
        have q : ResOk (Pd O1 n0 true) h1 (alloc (.lst ((rngL i j).map .int)) h1) (.lst ((rngL i j).map .int)) := new_lst Rds.ints
        exact (Got.after B q3 (got_new (nm := fun _ => true) B1 q)).nm fun j hj => by rw [Bool.and_true]; exact hj
      · cases e
    · cases e
  · cases e
theorem oneInt_eq {P : PP} {vs : List Va} {ts : List Tr} {o : Option Int} (r : RTops P h vs ts) (e : oneIntT ts = some o) : oneInt vs = some o := by
  unfold oneIntT at e
  split at e
  · cases r; cases e; rfl
  · obtain ⟨v, rfl, rv⟩ := r.one
    cases rv; cases e; rfl
  · cases e
theorem slc_B {a : E} {lo hi : Es} (ha : EvOk Ca C a) (hl : EvTOk Ca C lo) (hh : EvTOk Ca C hi) : EvOk Ca C (.slc a lo hi) := by
  intro n0 h σ bs bs' O ow sr y B e
  have e : ((preT a (bev C a) bs).bind fun x s1 => (bevT C lo s1).bind fun l s2 => match finsT l s2 with
    | some (lt, _) => match oneIntT lt with
      | some l => (bevT C hi s2).bind fun u s3 => match finsT u s3 with
        | some (ut, _) => match oneIntT ut with
          | some u => op1 x s3 fun t f => newB (slcT t l u) f s3
          | none => .bad
        | none => .bad
      | none => .bad
    | none => .bad) = .ok y bs' := e
  obtain ⟨x, s1, e1, e⟩ := rb_bind e
  obtain ⟨h1, v, O1, ow1, q1, B1, q3, p1⟩ := pre_ok ha B e1
  obtain ⟨ls, s2, e2, e⟩ := rb_bind e
  obtain ⟨h2, lv, O2, ow2, r1, B2, r3, p2⟩ := hl B1 e2
  have p1 := p1.step B1 r3
  split at e
  · rename_i lt f0 ef
    split at e
    · rename_i l el
      obtain ⟨us, s3, e3, e⟩ := rb_bind e
      obtain ⟨h3, uv, O3, ow3, t1, B3, t3, p3⟩ := hh B2 e3
      have p1 := p1.step B2 t3
      split at e
      · rename_i ut f1 eg
        split at e
        · rename_i u eu
          obtain ⟨t, f, e4, e⟩ := op1_ok e
          obtain ⟨r, e5, rfl, rfl⟩ := newB_ok e
          have ea : ev Ca (.slc a lo hi) σ h = slcV v l u h3 := by
            show (ev Ca a σ h).bind _ = _
            rw [q1]
            show (evs Ca lo σ h1).bind _ = _
            rw [r1]
            show (match oneInt lv with
              | some l => (evs Ca hi σ h2).bind fun u h3 => match oneInt u with
                | some u => slcV v l u h3
                | none => .bad
              | none => .bad) = _
            rw [oneInt_eq (p2.fin B2 ef) el]
            simp only []
            rw [t1]
            show (match oneInt uv with
                | some u => slcV v l u h3
                | none => .bad) = _
            rw [oneInt_eq (p3.fin B3 eg) eu]
          rw [ea]
          exact (Got.after B (.trans B.lt q3 (.trans B1.lt r3 t3)) (got_new (nm := fun _ => true) B3 (slc_ok (p1.fin B3 e4) e5))).nm fun j hj => by rw [Bool.and_true]; exact hj
        · cases e
      · cases e
    · cases e
  · cases e

/-! ### methods -/
theorem kd_eq {P : PP} {v : Va} {t : Tr} {k : Kd} (r : RTop P h v t) (e : kdT t = some k) : kdOf v h = some k := by
  cases t with
  | lst ts => obtain ⟨l, xs, rfl, q, _⟩ := r; cases e; unfold kdOf; simp only [q]
  | tup ts => cases e
  | dK ts => obtain ⟨l, xs, rfl, q, _⟩ := r; cases e; unfold kdOf; simp only [q]
  | dT ts => obtain ⟨l, xs, rfl, q, _⟩ := r; cases e; unfold kdOf; simp only [q]
  | str x => cases r; cases e; rfl
  | _ => cases e
theorem strsT_eq {P : PP} : ∀ {vs : List Va} {ts : List Tr} {l : List Str}, Rds P h vs ts → strsT ts = some l → strsOf vs = some l
  | _, _, _, .nil, e => e
  | _, _, l, .cons a r, e => by
    unfold strsT at e
    split at e
    · rename_i z; cases z
    · rename_i i r' z
      cases z
      cases a
      split at e
      · rename_i l' el
        cases e
        unfold strsOf
        rw [strsT_eq r el]
      · cases e
    · cases e
theorem strs_rd {P : PP} : ∀ ss : List Str, Rds P h (ss.map .str) (ss.map .str)
  | [] => .nil
  | _ :: r => .cons (.str _) (strs_rd r)
/-- methods that look: a value of the receiver or of the arguments, or a new one -/
theorem look_ok {P : PP} {m : Mt} {k : Kd} {v : Va} {vs : List Va} {t u : Tr} {ts : List Tr} (r : RTop P h v t) (rs : RTops P h vs ts) (ek : kdT t = some k) (e : lookR m t ts = some u) (gets : m = .get → ∀ (w : Va) (d : Tr), vs[1]? = some w → ts[1]? = some d → Rd' P h w d) :
    (∃ w, mtK m k v vs h = .ok w h ∧ Rd' P h w u) ∨ ResOk P h (mtK m k v vs h) u := by
  unfold lookR at e
  split at e
  · have ed := datD_eq r
    have r0 := r
    obtain ⟨l, xs, rfl, q, r⟩ := r
    cases ek
    obtain ⟨w, rfl, rw_⟩ := rs.one
    have ew := datD_eq rw_
    split at e
    · rename_i ds d e1 e2
      split at e
      · rename_i hz
        split at e
        · rename_i j ej
          cases e
          refine .inl ⟨.int j, ?_, .int _⟩
          show indexV (.ref l) [w] h = _
          unfold indexV
          simp only [ed, ew, e1, e2]
          rw [if_pos hz, ej]
        · cases e
      · cases e
    · cases e
  · cases r
    cases ek
    obtain ⟨w, rfl, rw_⟩ := rs.one
    cases rw_
    split at e
    · rename_i i rest eo
      cases e
      refine .inl ⟨.int i, ?_, .int _⟩
      rw [show mtK Mt.index Kd.s = sindexV from rfl]
      unfold sindexV
      simp only [eo]
    · cases e
  · obtain ⟨l, xs, rfl, q, r⟩ := r
    cases ek
    obtain ⟨w, rfl, rw_⟩ := rs.one
    cases rw_
    split at e
    · rename_i ns en
      cases e
      refine .inl ⟨.int _, ?_, .int _⟩
      rw [show mtK Mt.count Kd.l = countV from rfl]
      unfold countV
      simp only [q, intsT_eq r en]
    · cases e
  · have r0 := r
    obtain ⟨l, xs, rfl, q, _⟩ := r
    cases ek
    obtain ⟨w, rfl, rw_⟩ := rs.one
    split at e
    · rename_i o eo
      cases e
      left
      show ∃ w', getV (.ref l) [w] h = _ ∧ _
      unfold getV
      rcases dLook_ok r0 rw_ eo with ⟨h1, rfl⟩ | ⟨v', t', h1, rfl, rv⟩
      · simp only [h1]; exact ⟨_, rfl, .non⟩
      · simp only [h1]; exact ⟨_, rfl, rv⟩
    · cases e
  · have r0 := r
    obtain ⟨l, xs, rfl, q, _⟩ := r
    cases ek
    obtain ⟨w, rfl, rw_⟩ := rs.one
    split at e
    · rename_i o eo
      cases e
      left
      show ∃ w', getV (.ref l) [w] h = _ ∧ _
      unfold getV
      rcases dLook_ok r0 rw_ eo with ⟨h1, rfl⟩ | ⟨v', t', h1, rfl, rv⟩
      · simp only [h1]; exact ⟨_, rfl, .non⟩
      · simp only [h1]; exact ⟨_, rfl, rv⟩
    · cases e
  · have r0 := r
    obtain ⟨l, xs, rfl, q, _⟩ := r
    cases ek
    obtain ⟨w, w2, rfl, rw_, rw2⟩ := rs.two
    have g := gets rfl w2 _ rfl rfl
    split at e
    · rename_i o eo
      cases e
      left
      show ∃ w', getV (.ref l) [w, w2] h = _ ∧ _
      unfold getV
      rcases dLook_ok r0 rw_ eo with ⟨h1, rfl⟩ | ⟨v', t', h1, rfl, rv⟩
      · simp only [h1]; exact ⟨_, rfl, g⟩
      · simp only [h1]; exact ⟨_, rfl, rv⟩
    · cases e
  · have r0 := r
    obtain ⟨l, xs, rfl, q, _⟩ := r
    cases ek
    obtain ⟨w, w2, rfl, rw_, rw2⟩ := rs.two
    have g := gets rfl w2 _ rfl rfl
    split at e
    · rename_i o eo
      cases e
      left
      show ∃ w', getV (.ref l) [w, w2] h = _ ∧ _
      unfold getV
      rcases dLook_ok r0 rw_ eo with ⟨h1, rfl⟩ | ⟨v', t', h1, rfl, rv⟩
      · simp only [h1]; exact ⟨_, rfl, g⟩
      · simp only [h1]; exact ⟨_, rfl, rv⟩
    · cases e
  · cases r
    cases ek
    obtain ⟨w, rfl, l, xs, rfl, q, rr⟩ := rs.one
    split at e
    · rename_i ss es
      split at e
      · rename_i hz
        cases e
        refine .inl ⟨.str _, ?_, .str _⟩
        rw [show mtK Mt.join Kd.s = joinV from rfl]
        unfold joinV
        simp only [q, strsT_eq rr es]
        rw [if_pos hz]
      · cases e
    · cases e
  · cases r
    cases ek
    obtain ⟨w, rfl, l, xs, rfl, q, rr⟩ := rs.one
    split at e
    · rename_i ss es
      split at e
      · rename_i hz
        cases e
        refine .inl ⟨.str _, ?_, .str _⟩
        rw [show mtK Mt.join Kd.s = joinV from rfl]
        unfold joinV
        simp only [q, strsT_eq rr es]
        rw [if_pos hz]
      · cases e
    · cases e
  · cases r
    cases ek
    obtain ⟨w, rfl, rw_⟩ := rs.one
    cases rw_
    split at e
    · rename_i hz
      cases e
      right
      rw [show mtK Mt.split Kd.s = splitV from rfl]
      unfold splitV
      simp only []
      rw [if_pos hz]
      exact new_lst (strs_rd _)
    · cases e
  · cases e
theorem rd_top_wk {f : Bool} {v : Va} {t : Tr} (r : Rd' (Pd O n0 f) h v t) : Rd' (Pd O n0 false) h v t := r.imp fun l m o p q => ⟨⟨p.1, fun z => by cases z⟩, q⟩
theorem PvsP.inr {vs : List Va} {xs : List Lv} (hl : vs.length = xs.length) (f : ∀ (i : Nat) (x : Lv), xs[i]? = some x → ∃ v, vs[i]? = some v ∧ Rd' (Pd O n0 x.fr) h v x.t) : PvsP n0 h σ O vs (xs.map .inr) := by
  induction xs generalizing vs with
  | nil =>
    have := List.eq_nil_of_length_eq_zero hl
    subst this
    exact .nil
  | cons x xs ih =>
    cases vs with
    | nil => cases hl
    | cons v vs =>
      obtain ⟨w, e, r⟩ := f 0 x rfl
      cases e
      exact .cons r (ih (by simpa using hl) fun i y e => f (i + 1) y e)
/-- the arguments of a method that looks -/
theorem args_look {m : Mt} {as : Es} (hs : EvsOk Ca C as) (ht : EvTOk Ca C as) {xs : List (Nat ⊕ Lv)} (B : BR n0 h σ bs O ow sr) (e : (if m = .get then (bevs C as bs).bind fun xs s => .ok (xs.map .inr) s else bevT C as bs) = .ok xs bs') :
    GotT n0 h σ bs O ow sr (evs Ca as σ h) xs (fun j => nmEs j as) bs' ∧ (m = .get → ∃ ys : List Lv, xs = ys.map .inr) := by
  split at e
  · obtain ⟨ys, s1, e1, e⟩ := rb_bind e
    cases e
    obtain ⟨h1, vs, ls, O1, ow1, q1, B1, q3, p1⟩ := hs B e1
    obtain ⟨O2, B2, w1, w2, r, f⟩ := p1.forget B1 B.n0
    exact ⟨⟨h1, vs, O2, ow1, q1, B2, ⟨q3.len, q3.keep, fun l z no => w2 l (q3.oin l z no) (B.lt l z), fun l z => q3.oout l (w1 l z), q3.own, q3.str⟩, .inr p1.len f⟩, fun _ => ⟨ys, rfl⟩⟩
  · rename_i hm
    exact ⟨ht B e, fun z => absurd z hm⟩
theorem fins_inr {xs : List Lv} {bs : BS} {ts : List Tr} {f : Bool} (e : finsT (xs.map .inr) bs = some (ts, f)) : ts = lvsT xs ∧ f = lvsF xs := by
  induction xs generalizing ts f with
  | nil => cases e; exact ⟨rfl, rfl⟩
  | cons x xs ih =>
    have e : (match finsT (xs.map .inr) bs with
      | some (ts, g) => some (x.t :: ts, x.fr && g)
      | none => none) = some (ts, f) := e
    split at e
    · rename_i ts' g e2
      cases e
      obtain ⟨h1, h2⟩ := ih e2
      exact ⟨by rw [h1]; rfl, by rw [h2]; rfl⟩
    · cases e
theorem mthL_B {m : Mt} {o : E} {as : Es} (hm : isMutM m = false) (ho : EvOk Ca C o) (hs : EvsOk Ca C as) (ht : EvTOk Ca C as) : EvOk Ca C (.mth m o as) := by
  intro n0 h σ bs bs' O ow sr y B e
  unfold bev at e
  rw [if_neg (by rw [hm]; exact Bool.false_ne_true)] at e
  obtain ⟨x, s1, e1, e⟩ := rb_bind e
  obtain ⟨h1, v, O1, ow1, q1, B1, q3, p1⟩ := pre_ok ho B e1
  obtain ⟨t0, f0, g0, e⟩ := op1_ok e
  split at e
  · rename_i k hk
    split at e
    · rename_i ok
      obtain ⟨xs, s2, e2, e⟩ := rb_bind e
      obtain ⟨⟨h2, vs, O2, ow2, r1, B2, r3, p2⟩, hget⟩ := args_look hs ht B1 e2
      have p1' := p1.step B1 r3
      obtain ⟨t, f, g1, e⟩ := op1_ok e
      split at e
      · rename_i us g eg
        split at e
        · rename_i hk2
          obtain ⟨u, e5, rfl, rfl⟩ := oldB_ok e
          have ea : ev Ca (.mth m o as) σ h = mtK m k v vs h2 := by
            show (ev Ca o σ h).bind _ = _
            rw [q1]
            show (match kdOf v h1 with
              | some k => if mtOk m k = true then (evs Ca as σ h1).bind fun vs h2 => mtK m k v vs h2 else .bad
              | none => .bad) = _
            rw [kd_eq (p1.fin B1 g0) hk]
            simp only []
            rw [if_pos ok, r1]
            rfl
          rw [ea]
          have wkb : ∀ {a b : Bool} {w : Va} {d : Tr}, (b = true → a = true) → RTop (Pd O2 n0 a) h2 w d → RTop (Pd O2 n0 b) h2 w d := fun wk r => r.imp (fun l m o p q => ⟨⟨p.1, fun z => p.2 (wk z)⟩, q⟩) fun _ _ _ q => q
          have R := look_ok (P := Pd O2 n0 (f && g)) (m := m) (wkb (fun z => by rw [Bool.and_eq_true] at z; exact z.1) (p1'.fin B2 g1)) ((p2.fin B2 eg).wk fun z => by rw [Bool.and_eq_true] at z; exact z.2) hk2 e5 fun hg w d ew ed => by
            obtain ⟨ys, rfl⟩ := hget hg
            obtain ⟨z1, z2⟩ := fins_inr eg
            subst z1 z2
            have : ∀ {vs : List Va} {ys : List Lv}, PvsP n0 h2 σ O2 vs (ys.map .inr) → ∀ (i : Nat) (w : Va) (d : Tr), vs[i]? = some w → (lvsT ys)[i]? = some d → ∃ x : Lv, ys[i]? = some x ∧ Rd' (Pd O2 n0 x.fr) h2 w d := by
              intro vs ys
              induction ys generalizing vs with
              | nil => intro p i w d a b; simp [lvsT] at b
              | cons z ys ih =>
                intro p i w d a b
                cases p with
                | cons pa pr =>
                  cases i with
                  | zero => cases a; cases b; exact ⟨z, rfl, pa⟩
                  | succ i => exact ih pr i w d a b
            obtain ⟨x, ex, rx⟩ := this p2 1 w d ew ed
            refine rx.imp fun l m o p q => ⟨⟨p.1, fun z => p.2 ?_⟩, q⟩
            rw [Bool.and_eq_true] at z
            exact List.all_eq_true.mp z.2 x (List.mem_of_getElem? ex)
          have done : Got n0 h2 σ bs' O2 ow2 sr (mtK m k v vs h2) (mkOld u (f && g)) (fun _ => true) bs' := by
            rcases R with ⟨w, e6, rr⟩ | R
            · rw [e6]; exact got_old B2 rr
            · have gn := got_new (nm := fun _ => true) B2 R
              obtain ⟨h3, w, O3, ow3, a1, a2, a3, a4⟩ := gn.forget B2
              refine ⟨h3, w, O3, ow3, a1, a2, a3, ?_⟩
              unfold LvP mkOld
              rw [if_neg Bool.false_ne_true]
              have a4 : Rd' (Pd O3 n0 ((f && g) || immE u)) h3 w u := a4
              refine a4.imp fun l m o p q => ⟨⟨p.1, fun z => p.2 ?_⟩, q⟩
              have z : ((f && g) || imm u) = true := z
              rw [Bool.or_eq_true] at z ⊢
              rcases z with z | z
              · exact .inl z
              · right
                cases u <;> first | rfl | exact z | cases z
          exact (Got.after B (.trans B.lt q3 r3) done).nm fun j hj => by
            have hj : (!(isMutM m && isVar j o) && (nmE j o && nmEs j as)) = true := hj
            simp only [Bool.and_eq_true] at hj ⊢
            exact ⟨⟨hj.2.1, hj.2.2⟩, trivial⟩
        · cases e
      · cases e
    · cases e
  · cases e
end
end HA

namespace HA
open PySem PySem.Spec PyProof.Rows L2
section
variable {n0 : Nat} {h : Hh} {σ : Sl} {bs bs' : BS} {O : List Nat} {ow : Ow} {sr : So} {Ca : Cf} {C : Cb}

/-! ### methods that change one's own list -/
theorem Rds.two {P : PP} {vs : List Va} {a b : Tr} (r : Rds P h vs [a, b]) : ∃ v w, vs = [v, w] ∧ Rd' P h v a ∧ Rd' P h w b := by
  cases r with
  | cons x r => cases r with | cons y r => cases r; exact ⟨_, _, rfl, x, y⟩
theorem Rds.one {P : PP} {vs : List Va} {a : Tr} (r : Rds P h vs [a]) : ∃ v, vs = [v] ∧ Rd' P h v a := by
  cases r with
  | cons x r => cases r; exact ⟨_, rfl, x⟩
theorem Rds.wk {P Q : PP} (w : ∀ l m, P l m → Q l m) {vs : List Va} {ts : List Tr} (r : Rds P h vs ts) : Rds Q h vs ts := r.imp fun l m o p q => ⟨w l m p, q⟩
theorem Rd'.wk {P Q : PP} (w : ∀ l m, P l m → Q l m) {vs : Va} {ts : Tr} (r : Rd' P h vs ts) : Rd' Q h vs ts := r.imp fun l m o p q => ⟨w l m p, q⟩
theorem mut_ok {P Q R : PP} {m : Mt} {l : Nat} {vs : List Va} {t t' u : Tr} {ts : List Tr} (hP : ∀ l m, P l m → R l m) (hQ : ∀ l m, Q l m → R l m) (r : RTop P h (.ref l) t) (rs : Rds Q h vs ts) (e : mutR m t ts = some (t', u)) :
    ∃ w xs' ts', mtK m .l (.ref l) vs h = .ok w (h.set l (.lst xs')) ∧ Rd' P h w u ∧ t' = .lst ts' ∧ Rds R h xs' ts' ∧ mtOk m .l = true ∧ ∃ ts, t = .lst ts := by
  unfold mutR at e
  split at e
  · obtain ⟨l', xs, e0, q, r⟩ := r
    cases e0
    obtain ⟨v, rfl, rv⟩ := rs.one
    split at e
    · rename_i hz
      cases e
      refine ⟨.non, xs ++ [v], _, ?_, .non, rfl, (r.wk hP).app (.cons (rv.wk hQ) .nil), rfl, _, rfl⟩
      show appendV (.ref l) [v] h = _
      unfold appendV
      simp only [q]
      rw [if_pos (by rw [r.len]; exact hz)]
    · cases e
  · obtain ⟨l', xs, e0, q, r⟩ := r
    cases e0
    obtain ⟨v, rfl, rv⟩ := rs.one
    obtain ⟨l2, ys, rfl, q2, r2⟩ := rv.top
    split at e
    · rename_i hz
      cases e
      refine ⟨.non, xs ++ ys, _, ?_, .non, rfl, (r.wk hP).app (r2.wk hQ), rfl, _, rfl⟩
      show extendV (.ref l) [.ref l2] h = _
      unfold extendV
      simp only [q, q2]
      rw [if_pos (by rw [r.len, r2.len]; exact hz)]
    · cases e
  · obtain ⟨l', xs, e0, q, r⟩ := r
    cases e0
    cases rs
    split at e
    · rename_i y hy
      cases e
      obtain ⟨v, h1, h2⟩ := r.get hy
      refine ⟨v, xs.dropLast, _, ?_, h2, rfl, (r.wk hP).dropLast, rfl, _, rfl⟩
      show popV (.ref l) [] h = _
      unfold popV
      simp only [q, r.len, h1]
    · cases e
  · obtain ⟨l', xs, e0, q, r⟩ := r
    cases e0
    obtain ⟨v, rfl, rv⟩ := rs.one
    cases rv
    split at e
    · rename_i hz
      split at e
      · rename_i k hk
        split at e
        · rename_i y hy
          cases e
          obtain ⟨v, h1, h2⟩ := r.get hy
          refine ⟨v, xs.eraseIdx k, _, ?_, h2, rfl, (r.wk hP).erase k, rfl, _, rfl⟩
          rw [show mtK Mt.pop Kd.l = popV from rfl]
          unfold popV
          simp only [q, r.len]
          rw [if_pos (by have := nin_iff.mp hz; omega), hk]
          simp only [h1]
        · cases e
      · cases e
    · cases e
  · obtain ⟨l', xs, e0, q, r⟩ := r
    cases e0
    obtain ⟨v, w, rfl, rv, rw_⟩ := rs.two
    cases rv
    split at e
    · rename_i hz
      cases e
      refine ⟨.non, xs.take _ ++ [w] ++ xs.drop _, _, ?_, .non, rfl, (((r.wk hP).take _).app (.cons (rw_.wk hQ) .nil)).app ((r.wk hP).drop _), rfl, _, rfl⟩
      rw [show mtK Mt.insert Kd.l = insertV from rfl]
      unfold insertV
      simp only [q, r.len]
      rw [if_pos (by have := nin_iff.mp hz.2.2; exact ⟨hz.1, hz.2.1, by omega⟩)]
    · cases e
  · obtain ⟨l', xs, e0, q, r⟩ := r
    cases e0
    cases rs
    cases e
    refine ⟨.non, [], _, ?_, .non, rfl, .nil, rfl, _, rfl⟩
    show clearV (.ref l) [] h = _
    unfold clearV
    simp only [q]
  · cases e
/-- one's own cell is changed -/
theorem BR.mut {i l : Nat} {t t' : Tr} {fr fr' : Bool} {o' : Ob} (B : BR n0 h σ bs O ow sr) (es : bs.sl[i]? = some (.val t true fr)) (ei : ow[i]? = some (some l)) (m : mutT t' = true) (r : RTop (Pd O n0 fr') (h.set l o') (.ref l) t') :
    BR n0 (h.set l o') σ ⟨bs.sl.set i (.val t' true fr'), bs.st⟩ O ow sr ∧ ∀ nm : Nat → Bool, nm i = false → Stp h O ow sr (h.set l o') O ow sr nm := by
  have hi : i < bs.sl.length := (List.getElem?_eq_some_iff.mp es).1
  have hlO := (B.inO l ⟨i, ei⟩).1
  have hls := (B.inO l ⟨i, ei⟩).2
  have same : ∀ x o, x ≠ l → h[x]? = some o → (h.set l o')[x]? = some o := fun x o hx e => by
    rw [List.getElem?_set_ne (fun z => hx z.symm)]; exact e
  obtain ⟨v, e1, q⟩ := B.slots i _ es
  rw [if_pos rfl] at q
  obtain ⟨m0, l0, a, rfl, c, d⟩ := q
  rw [ei] at a
  cases a
  have off : ∀ {P : PP} {x : Nat}, True := fun {_ _} => trivial
  have imp : ∀ {f : Bool} {v : Va} {t : Tr}, Rd' (Pd O n0 f) h v t → Rd' (Pd O n0 f) (h.set l o') v t := fun {f v t} r => r.imp fun x m o p q => ⟨p, same x o (fun z => p.1 (by rw [z]; exact hlO)) q⟩
  refine ⟨⟨by rw [List.length_set]; exact B.len, by rw [List.length_set]; exact B.ol, fun j b eb => ?_, B.inO, B.inj, fun p e => ?_, B.sO, fun x z => by rw [List.length_set]; exact B.lt x z, by rw [List.length_set]; exact B.n0⟩, fun nm hn => ⟨by rw [List.length_set]; exact Nat.le_refl _, fun x o e s w => ?_, fun x z _ => z, fun x z => .inl z, fun j x z => .inl z, fun x z => .inl z⟩⟩
  · rw [List.getElem?_set] at eb
    split at eb
    · rename_i hj
      subst hj
      first | rw [if_pos hi] at eb | skip
      cases eb
      exact ⟨_, e1, by rw [if_pos rfl]; exact ⟨m, l, ei, rfl, c, r⟩⟩
    · rename_i hj
      have q := B.slots j b eb
      cases b with
      | no => trivial
      | st => exact q
      | val t2 own2 fr2 =>
        obtain ⟨v2, e2, q⟩ := q
        refine ⟨v2, e2, ?_⟩
        split at q
        · rename_i ho
          rw [if_pos ho]
          obtain ⟨m2, l2, a2, rfl, c2, d2⟩ := q
          have hne : l2 ≠ l := fun z => hj (B.inj i j l ei (by rw [← z]; exact a2))
          exact ⟨m2, l2, a2, rfl, c2, d2.imp (fun x m o p q => ⟨p, same x o (fun z => p.1 (by rw [z]; exact hlO)) q⟩) fun x o e q => by cases e; exact same _ o hne q⟩
        · rename_i ho
          rw [if_neg ho]
          exact imp q
  · obtain ⟨s1, s2, s3⟩ := B.str p e
    exact ⟨s1, same _ _ (fun z => hls ⟨p, e, .inl z.symm⟩) s2, same _ _ (fun z => hls ⟨p, e, .inr z.symm⟩) s3⟩
  · refine same x o (fun z => ?_) e
    subst z
    have := w i ei
    rw [hn] at this
    cases this
theorem mthM_B {m : Mt} {i : Nat} {as : Es} (hm : isMutM m = true) (hs : EvsOk Ca C as) : EvOk Ca C (.mth m (.var i) as) := by
  intro n0 h σ bs bs' O ow sr y B e
  unfold bev at e
  rw [if_pos hm] at e
  simp only [] at e
  split at e
  · rename_i t0 own0 fr0 es0
    split at e
    · rename_i hk
      obtain ⟨xs, s1, e1, e⟩ := rb_bind e
      obtain ⟨h1, vs, ls, O1', ow1, q1, B1', q3', p1⟩ := hs B e1
      obtain ⟨O1, B1, w1, w2, r, _⟩ := p1.forget B1' B.n0
      have q3 : Stp h O ow sr h1 O1 ow1 sr (fun j => nmEs j as) := ⟨q3'.len, q3'.keep, fun l z no => w2 l (q3'.oin l z no) (B.lt l z), fun l z => q3'.oout l (w1 l z), q3'.own, q3'.str⟩
      split at e
      · rename_i t fr es
        split at e
        · rename_i t' u em
          cases e
          obtain ⟨v, ev1, qs⟩ := B1.slots i _ es
          rw [if_pos rfl] at qs
          obtain ⟨mt, l, ei, rfl, hl, rt⟩ := qs
          obtain ⟨w, xs', ts', ek, rw_, rfl, rx, ok, ts0, rfl⟩ := mut_ok (R := Pd O1 n0 (fr && lvsF xs)) (fun l m p => ⟨p.1, fun z => p.2 (by rw [Bool.and_eq_true] at z; exact z.1)⟩) (fun l m p => ⟨p.1, fun z => p.2 (by rw [Bool.and_eq_true] at z; exact z.2)⟩) rt r em
          have hlt : l < h1.length := B1.lt l (B1.inO l ⟨i, ei⟩).1
          have hlO := (B1.inO l ⟨i, ei⟩).1
          have same : ∀ x o, x ∉ O1 → h1[x]? = some o → (h1.set l (.lst xs'))[x]? = some o := fun x o hx e => by
            rw [List.getElem?_set_ne (fun z => hx (by rw [← z]; exact hlO))]; exact e
          obtain ⟨B2, st2⟩ := B1.mut (o' := .lst xs') (t' := .lst ts') (fr' := fr && lvsF xs) es ei rfl ⟨l, xs', rfl, by rw [List.getElem?_set_self hlt], rx.imp fun x m o p q => ⟨p, same x o p.1 q⟩⟩
          obtain ⟨v0, z1, z2⟩ := look_slot B es0
          have hv0 : v0 = .ref l := by rw [ev1] at z1; cases z1; rfl
          subst hv0
          have ea : ev Ca (.mth m (.var i) as) σ h = .ok w (h1.set l (.lst xs')) := by
            show (ev Ca (.var i) σ h).bind _ = _
            have e0 : ev Ca (.var i) σ h = .ok (.ref l) h := by unfold ev; rw [ev1]
            rw [e0]
            show (match kdOf (.ref l) h with
              | some k => if mtOk m k = true then (evs Ca as σ h).bind fun vs h2 => mtK m k (.ref l) vs h2 else .bad
              | none => .bad) = _
            rw [kd_eq z2 hk]
            simp only []
            rw [if_pos ok, q1]
            exact ek
          rw [ea]
          refine ⟨_, w, O1, ow1, rfl, B2, (Stp.trans B.lt q3 (st2 (fun j => !isVar j (.var i)) (by simp [isVar]))).nm fun j hj => ?_, ?_⟩
          · have hj : (!(isMutM m && isVar j (.var i)) && (true && nmEs j as)) = true := hj
            rw [hm] at hj
            simp only [Bool.and_eq_true, Bool.true_and] at hj ⊢
            exact ⟨hj.2, hj.1⟩
          · unfold LvP mkOld
            rw [if_neg Bool.false_ne_true]
            exact (rw_.imp fun x m o p q => ⟨p, same x o p.1 q⟩ : Rd' (Pd O1 n0 fr) _ w u).old
        · cases e
      · cases e
    · cases e
  · cases e

/-! ### calls -/
inductive ArsP (h : Hh) (O : List Nat) (sr : So) : List Va → List Ar → Prop where
  | nil : ArsP h O sr [] []
  | v {v : Va} {x : Lv} {vs : List Va} {xs : List Ar} (a : Rd' (Pd O 0 false) h v x.t) (r : ArsP h O sr vs xs) : ArsP h O sr (v :: vs) (.v x :: xs)
  | s {p : Nat × Nat} {vs : List Va} {xs : List Ar} (e : sr = some p) (r : ArsP h O sr vs xs) : ArsP h O sr (.ref p.1 :: vs) (.s :: xs)
/-- a call's value -/
def LvC (n : Nat) (h : Hh) (O : List Nat) (v : Va) (x : Lv) : Prop := if x.uq = true then mutT x.t = true ∧ ∃ l, v = .ref l ∧ n ≤ l ∧ l < h.length ∧ RTop (Pd (l :: O) n x.fr) h v x.t else Rd' (Pd O n x.fr) h v x.t
def CallsOk (Ca : Cf) (C : Cb) : Prop := ∀ {h : Hh} {O : List Nat} {sr : So} {as : List Va} {xs : List Ar} {st st' : Strm} {g : Nat} {x : Lv}, C.call g xs st = .ok x st' → StrOk h sr st → (∀ l, isStr sr l → l ∈ O) → (∀ l, l ∈ O → l < h.length) → ArsP h O sr as xs →
  ∃ h' v, Ca.call g as h = .ok v h' ∧ h.length ≤ h'.length ∧ (∀ (l : Nat) (o : Ob), h[l]? = some o → ¬ isStr sr l → h'[l]? = some o) ∧ StrOk h' sr st' ∧ LvC h.length h' O v x
/-- the state behind a call -/
theorem call_got {g : Nat} {as : List Va} {xs : List Ar} {y : Lv} (hc : CallsOk Ca C) (B : BR n0 h σ bs O ow sr) (ha : ArsP h O sr as xs) (e : (C.call g xs bs.st).to bs = .ok y bs') : Got n0 h σ bs O ow sr (Ca.call g as h) y (fun _ => true) bs' := by
  unfold RC.to at e
  split at e
  · rename_i x st' ec
    cases e
    obtain ⟨h', v, e1, hl, keep, so, q⟩ := hc ec B.str B.sO B.lt ha
    rw [e1]
    have kO : ∀ x o, x ∉ O → h[x]? = some o → h'[x]? = some o := fun x o hx q => keep x o q fun z => hx (B.sO x z)
    have grow : ∀ O', (∀ l, l ∈ O → l ∈ O') → (∀ l, l ∈ O' → l ∈ O ∨ h.length ≤ l) → (∀ l, l ∈ O' → l < h'.length) → BR n0 h' σ ⟨bs.sl, st'⟩ O' ow sr := fun O' w1 w2 w3 => by
      have no : ∀ x o, x ∉ O → h[x]? = some o → x ∉ O' := fun x o hx q z => by
        rcases w2 x z with z | z
        · exact hx z
        · have := lt_of_get q; omega
      refine ⟨B.len, B.ol, fun i b eb => ?_, fun l z => ⟨w1 l (B.inO l z).1, (B.inO l z).2⟩, B.inj, so, fun l z => w1 l (B.sO l z), w3, Nat.le_trans B.n0 hl⟩
      have q := B.slots i b eb
      cases b with
      | no => trivial
      | st => exact q
      | val t2 own2 fr2 =>
        obtain ⟨v2, e2, q⟩ := q
        refine ⟨v2, e2, ?_⟩
        split at q
        · rename_i ho
          rw [if_pos ho]
          obtain ⟨m2, l2, a2, rfl, c2, d2⟩ := q
          exact ⟨m2, l2, a2, rfl, c2, d2.imp (fun x m o p q => ⟨⟨no x o p.1 q, p.2⟩, kO x o p.1 q⟩) fun x o e q => by cases e; exact keep _ o q (B.inO _ ⟨i, a2⟩).2⟩
        · rename_i ho
          rw [if_neg ho]
          exact q.imp fun x m o p q => ⟨⟨no x o p.1 q, p.2⟩, kO x o p.1 q⟩
    have step : ∀ O', (∀ l, l ∈ O → l ∈ O') → (∀ l, l ∈ O' → l ∈ O ∨ h.length ≤ l) → Stp h O ow sr h' O' ow sr (fun _ => true) := fun O' w1 w2 =>
      ⟨hl, fun l o e s _ => keep l o e s, fun l z _ => w1 l z, w2, fun j l z => .inl z, fun l z => .inl z⟩
    have up : ∀ {O' : List Nat} {f : Bool} {l : Nat} {m : Bool}, Pd O' h.length f l m → Pd O' n0 f l m := fun p => ⟨p.1, fun a b => Nat.le_trans B.n0 (p.2 a b)⟩
    unfold LvC at q
    split at q
    · rename_i hu
      obtain ⟨m, l, rfl, a, b, r⟩ := q
      have hlO : l ∉ O := fun z => by have := B.lt l z; omega
      have w2 : ∀ x, x ∈ l :: O → x ∈ O ∨ h.length ≤ x := fun x z => by
        rcases List.mem_cons.mp z with rfl | z
        · exact .inr a
        · exact .inl z
      refine ⟨h', _, l :: O, ow, rfl, grow _ (fun x z => List.mem_cons_of_mem _ z) w2 (fun x z => ?_), step _ (fun x z => List.mem_cons_of_mem _ z) w2, ?_⟩
      · rcases List.mem_cons.mp z with rfl | z
        · exact b
        · exact Nat.lt_of_lt_of_le (B.lt x z) hl
      · unfold LvP
        rw [if_pos hu]
        exact ⟨m, l, rfl, a, List.mem_cons_self, fun z => hlO (B.inO l z).1, fun z => hlO (B.sO l z), r.imp (fun x m o p q => ⟨up p, q⟩) fun _ _ _ q => q⟩
    · rename_i hu
      refine ⟨h', _, O, ow, rfl, grow _ (fun x z => z) (fun x z => .inl z) (fun x z => Nat.lt_of_lt_of_le (B.lt x z) hl), step _ (fun x z => z) (fun x z => .inl z), ?_⟩
      unfold LvP
      rw [if_neg hu]
      exact q.imp fun x m o p q => ⟨up p, q⟩
  · cases e
end
end HA

namespace HA
open PySem PySem.Spec PyProof.Rows L2
section
variable {n0 : Nat} {h : Hh} {σ : Sl} {bs bs' : BS} {O : List Nat} {ow : Ow} {sr : So} {Ca : Cf} {C : Cb}

/-! ### arguments of calls -/
theorem ArsP.step {h' : Hh} {O' : List Nat} {ow' : Ow} {nm : Nat → Bool} {vs : List Va} {xs : List Ar} (B : BR n0 h σ bs O ow sr) (s : Stp h O ow sr h' O' ow' sr nm) (p : ArsP h O sr vs xs) : ArsP h' O' sr vs xs := by
  induction p with
  | nil => exact .nil
  | v a _ ih =>
    refine .v (a.imp fun l m o p q => ?_) ih
    obtain ⟨n1, n2⟩ := B.avoid p.1
    refine ⟨⟨fun z => ?_, p.2⟩, s.keep l o q n2 fun j hj => absurd ⟨j, hj⟩ n1⟩
    rcases s.oout l z with z | z
    · exact p.1 z
    · have := lt_of_get q; omega
  | s e _ ih => exact .s e ih
theorem ArsP.app {vs ws : List Va} {xs ys : List Ar} (a : ArsP h O sr vs xs) (b : ArsP h O sr ws ys) : ArsP h O sr (vs ++ ws) (xs ++ ys) := by
  induction a with
  | nil => exact b
  | v r _ ih => exact .v r ih
  | s e _ ih => exact .s e ih
theorem ArsP.get {vs : List Va} {xs : List Ar} {i : Nat} {x : Ar} (a : ArsP h O sr vs xs) (e : xs[i]? = some x) : ∃ v, vs[i]? = some v ∧ ∀ {ws : List Va} {ys : List Ar}, ArsP h O sr ws ys → ArsP h O sr (v :: ws) (x :: ys) := by
  induction a generalizing i with
  | nil => simp at e
  | v r _ ih =>
    cases i with
    | zero => cases e; exact ⟨_, rfl, fun b => .v r b⟩
    | succ i => exact ih e
  | s e0 _ ih =>
    cases i with
    | zero => cases e; exact ⟨_, rfl, fun b => .s e0 b⟩
    | succ i => exact ih e
theorem ArsP.perm {vs : List Va} {xs : List Ar} (a : ArsP h O sr vs xs) : ∀ {pm : List Nat} {us : List Ar}, permA xs pm = some us → ∃ ws, permA vs pm = some ws ∧ ArsP h O sr ws us
  | [], us, e => by cases e; exact ⟨[], rfl, .nil⟩
  | i :: pm, us, e => by
    unfold permA mapO at e
    split at e
    · rename_i y ey
      split at e
      · rename_i ys eys
        cases e
        obtain ⟨v, h1, h2⟩ := a.get ey
        obtain ⟨ws, h3, h4⟩ := ArsP.perm a (pm := pm) eys
        refine ⟨v :: ws, ?_, h2 h4⟩
        unfold permA mapO
        simp only [h1]
        rw [show mapO (fun i => vs[i]?) pm = some ws from h3]
      · cases e
    · cases e
structure GotA (n0 : Nat) (h : Hh) (σ : Sl) (bs : BS) (O : List Nat) (ow : Ow) (sr : So) (r : RE (List Va)) (xs : List Ar) (nm : Nat → Bool) (bs' : BS) : Prop where
  ex : ∃ h' vs O' ow', r = .ok vs h' ∧ BR n0 h' σ bs' O' ow' sr ∧ Stp h O ow sr h' O' ow' sr nm ∧ ArsP h' O' sr vs xs
def EvAOk (Ca : Cf) (C : Cb) (e : Es) : Prop := ∀ {n0 : Nat} {h : Hh} {σ : Sl} {bs bs' : BS} {O : List Nat} {ow : Ow} {sr : So} {xs : List Ar}, BR n0 h σ bs O ow sr → bevA C e bs = .ok xs bs' → GotA n0 h σ bs O ow sr (evs Ca e σ h) xs (fun j => nmEs j e) bs'
theorem evA_nil : EvAOk Ca C .nil := by
  intro n0 h σ bs bs' O ow sr xs B e
  cases e
  exact ⟨h, [], O, ow, rfl, B, .refl, .nil⟩
theorem evA_star {e : E} {r : Es} : EvAOk Ca C (.star e r) := by
  intro n0 h σ bs bs' O ow sr xs B e0
  cases e0
theorem rd_zero {f : Bool} {v : Va} {t : Tr} (r : Rd' (Pd O n0 f) h v t) : Rd' (Pd O 0 false) h v t := r.imp fun l m o p q => ⟨⟨p.1, fun z => by cases z⟩, q⟩
theorem evA_cons {e : E} {r : Es} (he : EvOk Ca C e) (hr : EvAOk Ca C r) : EvAOk Ca C (.cons e r) := by
  intro n0 h σ bs bs' O ow sr xs B e0
  have gen : ∀ {x s1 ys}, bev C e bs = .ok x s1 → bevA C r s1 = .ok ys bs' → GotA n0 h σ bs O ow sr (evs Ca (.cons e r) σ h) (.v x :: ys) (fun j => nmEs j (.cons e r)) bs' := fun {x s1 ys} e1 e2 => by
    obtain ⟨h1, v, O1, ow1, q1, B1, q3, p1⟩ := (he B e1).forget B
    obtain ⟨h2, vs, O2, ow2, r1, B2, r3, p2⟩ := hr B1 e2
    refine ⟨h2, v :: vs, O2, ow2, ?_, B2, Stp.trans B.lt q3 r3, .v (rd_zero (Rd'.step B1 r3 p1)) p2⟩
    show (ev Ca e σ h).bind _ = _
    rw [q1]
    show (evs Ca r σ h1).bind _ = _
    rw [r1]
    rfl
  have e0 : ((preA e (bev C e) bs).bind fun x s1 => (bevA C r s1).bind fun xs s2 => .ok (x :: xs) s2) = .ok xs bs' := e0
  obtain ⟨x, s1, e1, e0⟩ := rb_bind e0
  obtain ⟨ys, s2, e2, e0⟩ := rb_bind e0
  cases e0
  have nrm : ((bev C e bs).bind fun x s => .ok (.v x) s) = .ok x s1 → GotA n0 h σ bs O ow sr (evs Ca (.cons e r) σ h) (x :: ys) (fun j => nmEs j (.cons e r)) bs' := fun e1 => by
    obtain ⟨y, s3, e3, e4⟩ := rb_bind e1
    cases e4
    exact gen e3 e2
  cases e with
  | var i =>
    unfold preA at e1
    simp only [] at e1
    split at e1
    · rename_i es
      cases e1
      obtain ⟨p, ep, ev1⟩ := B.slots i _ es
      obtain ⟨h2, vs, O2, ow2, r1, B2, r3, p2⟩ := hr B e2
      refine ⟨h2, .ref p.1 :: vs, O2, ow2, ?_, B2, r3.nm (fun j hj => by
        have hj : (true && nmEs j r) = true := hj
        rw [Bool.true_and] at hj; exact hj), .s ep p2⟩
      show (ev Ca (.var i) σ h).bind _ = _
      have e0 : ev Ca (.var i) σ h = .ok (.ref p.1) h := by unfold ev; rw [ev1]
      rw [e0]
      show (evs Ca r σ h).bind _ = _
      rw [r1]
      rfl
    · exact nrm e1
  | _ => exact nrm e1
theorem rd_no {f : Bool} {l : Nat} {t : Tr} (q : Rd' (Pd O n0 f) h (.ref l) t) : l ∉ O := by
  cases q with
  | lst p q r => exact p.1
  | tup p q r => exact p.1
  | dK p q e r => exact p.1
  | dT p q e r => exact p.1
theorem call_B {g : Nat} {as : Es} (hc : CallsOk Ca C) (ha : EvAOk Ca C as) : EvOk Ca C (.call g as) := by
  intro n0 h σ bs bs' O ow sr y B e
  have e : ((bevA C as bs).bind fun xs s1 => (C.call g xs s1.st).to s1) = .ok y bs' := e
  obtain ⟨xs, s1, e1, e⟩ := rb_bind e
  obtain ⟨h1, vs, O1, ow1, q1, B1, q3, p1⟩ := ha B e1
  have ea : ev Ca (.call g as) σ h = Ca.call g vs h1 := by
    show (evs Ca as σ h).bind _ = _
    rw [q1]; rfl
  rw [ea]
  exact (Got.after B q3 (call_got hc B1 p1 e)).nm fun j hj => by rw [Bool.and_true]; exact hj
theorem callk_B {g : Nat} {as ks : Es} {pm : List Nat} (hc : CallsOk Ca C) (ha : EvAOk Ca C as) (hk : EvAOk Ca C ks) : EvOk Ca C (.callk g as ks pm) := by
  intro n0 h σ bs bs' O ow sr y B e
  have e : ((bevA C as bs).bind fun xs s1 => (bevA C ks s1).bind fun ys s2 => match permA (xs ++ ys) pm with
    | some us => (C.call g us s2.st).to s2
    | none => .bad) = .ok y bs' := e
  obtain ⟨xs, s1, e1, e⟩ := rb_bind e
  obtain ⟨h1, vs, O1, ow1, q1, B1, q3, p1⟩ := ha B e1
  obtain ⟨ys, s2, e2, e⟩ := rb_bind e
  obtain ⟨h2, ws, O2, ow2, r1, B2, r3, p2⟩ := hk B1 e2
  split at e
  · rename_i us eu
    obtain ⟨zs, ez, pz⟩ := ((p1.step B1 r3).app p2).perm eu
    have ea : ev Ca (.callk g as ks pm) σ h = Ca.call g zs h2 := by
      show (evs Ca as σ h).bind _ = _
      rw [q1]
      show (evs Ca ks σ h1).bind _ = _
      rw [r1]
      show (match permA (vs ++ ws) pm with
        | some us => Ca.call g us h2
        | none => .bad) = _
      rw [ez]
    rw [ea]
    exact (Got.after B (.trans B.lt q3 r3) (call_got hc B2 pz e)).nm fun j hj => by rw [Bool.and_true]; exact hj
  · cases e

/-! ### what is walked -/
def YvP (n0 : Nat) (h : Hh) (O : List Nat) : Ya → Yb → Prop
  | .one v, .one x => x.uq = false ∧ Rd' (Pd O n0 x.fr) h v x.t
  | .two v w, .two x y => (x.uq = false ∧ Rd' (Pd O n0 x.fr) h v x.t) ∧ y.uq = false ∧ Rd' (Pd O n0 y.fr) h w y.t
  | _, _ => False
inductive YsP (n0 : Nat) (h : Hh) (O : List Nat) : List Ya → List Yb → Prop where
  | nil : YsP n0 h O [] []
  | cons {y : Ya} {z : Yb} {ys : List Ya} {zs : List Yb} (a : YvP n0 h O y z) (r : YsP n0 h O ys zs) : YsP n0 h O (y :: ys) (z :: zs)
theorem YvP.step {h' : Hh} {O' : List Nat} {ow' : Ow} {sr' : So} {nm : Nat → Bool} {y : Ya} {z : Yb} (B : BR n0 h σ bs O ow sr) (s : Stp h O ow sr h' O' ow' sr' nm) (p : YvP n0 h O y z) : YvP n0 h' O' y z := by
  cases y <;> cases z <;> first
    | exact p.elim
    | exact ⟨p.1, Rd'.step B s p.2⟩
    | exact ⟨⟨p.1.1, Rd'.step B s p.1.2⟩, p.2.1, Rd'.step B s p.2.2⟩
theorem YsP.step {h' : Hh} {O' : List Nat} {ow' : Ow} {sr' : So} {nm : Nat → Bool} {y : List Ya} {z : List Yb} (B : BR n0 h σ bs O ow sr) (s : Stp h O ow sr h' O' ow' sr' nm) (p : YsP n0 h O y z) : YsP n0 h' O' y z := by
  induction p with
  | nil => exact .nil
  | cons a _ ih => exact .cons (a.step B s) ih
/-- the walked objects stand, and the text within does not change them -/
def SrcP (h : Hh) (ow : Ow) (sr : So) (nm : Nat → Bool) (src : List (Nat × Ob)) : Prop := ∀ p, p ∈ src → h[p.1]? = some p.2 ∧ ¬ isStr sr p.1 ∧ ∀ j, ow[j]? = some (some p.1) → nm j = true
theorem SrcP.live {nm : Nat → Bool} {src : List (Nat × Ob)} (s : SrcP h ow sr nm src) : live src h = true := List.all_eq_true.mpr fun p hp => decide_eq_true (s p hp).1
theorem SrcP.step {h' : Hh} {O' : List Nat} {ow' : Ow} {sr' : So} {nm nm2 : Nat → Bool} {src : List (Nat × Ob)} (s : Stp h O ow sr h' O' ow' sr' nm) (w : ∀ j, nm2 j = true → nm j = true) (p : SrcP h ow sr nm2 src) : SrcP h' ow' sr' nm2 src := fun q hq => by
  obtain ⟨a, b, c⟩ := p q hq
  have hl := lt_of_get a
  refine ⟨s.keep _ _ a b fun j hj => w j (c j hj), fun z => ?_, fun j hj => ?_⟩
  · rcases s.str _ z with z | z
    · exact b z
    · omega
  · rcases s.own j _ hj with z | z
    · exact c j z
    · omega
structure GotI (n0 : Nat) (h : Hh) (σ : Sl) (bs : BS) (O : List Nat) (ow : Ow) (sr : So) (nm2 : Nat → Bool) (r : RE Itr) (ys : List Yb) (nm : Nat → Bool) (bs' : BS) : Prop where
  ex : ∃ h' w O' ow', r = .ok w h' ∧ BR n0 h' σ bs' O' ow' sr ∧ Stp h O ow sr h' O' ow' sr nm ∧ YsP n0 h' O' w.ys ys ∧ SrcP h' ow' sr nm2 w.src
def EvIOk (Ca : Cf) (C : Cb) (it : It) : Prop := ∀ {n0 : Nat} {h : Hh} {σ : Sl} {bs bs' : BS} {O : List Nat} {ow : Ow} {sr : So} {nm2 : Nat → Bool} {ys : List Yb}, BR n0 h σ bs O ow sr → bevIt C nm2 it bs = .ok ys bs' → GotI n0 h σ bs O ow sr nm2 (evIt Ca it σ h) ys (fun j => nmIt j it) bs'
/-- a source: where it lies -/
def SvP (n0 : Nat) (h : Hh) (σ : Sl) (O : List Nat) (ow : Ow) (sr : So) (nm2 : Nat → Bool) (v : Va) (x : Nat ⊕ Lv) : Prop := PvP n0 h σ O v x ∧ ∀ i, x = .inl i → nm2 i = true
theorem src_ok {a : E} {nm2 : Nat → Bool} (ha : EvOk Ca C a) {x : Nat ⊕ Lv} (B : BR n0 h σ bs O ow sr) (e : srcT a (bev C a) nm2 bs = .ok x bs') : GotP n0 h σ bs O ow sr (ev Ca a σ h) x (fun j => nmE j a) bs' ∧ ∀ i, x = .inl i → nm2 i = true := by
  have esc : ((bev C a bs).bind fun x s => .ok (.inr x) s) = .ok x bs' → GotP n0 h σ bs O ow sr (ev Ca a σ h) x (fun j => nmE j a) bs' ∧ ∀ i, x = .inl i → nm2 i = true := fun e => by
    obtain ⟨y, s1, e1, e2⟩ := rb_bind e
    cases e2
    obtain ⟨h', v, O', ow', q1, q2, q3, q4⟩ := (ha B e1).forget B
    exact ⟨⟨h', v, O', ow', q1, q2, q3, q4⟩, fun i z => by cases z⟩
  unfold srcT at e
  split at e
  · rename_i i
    split at e
    · rename_i hn
      refine ⟨pre_ok ha B e, fun j z => ?_⟩
      subst z
      unfold preT at e
      simp only [] at e
      split at e
      · cases e; exact hn
      · cases e
    · exact esc e
  · exact esc e
theorem src_at {nm2 : Nat → Bool} {v : Va} {x : Nat ⊕ Lv} {t : Tr} {f : Bool} {ys : List Lv} (B : BR n0 h σ bs O ow sr) (p : PvP n0 h σ O v x) (hn : ∀ i, x = .inl i → nm2 i = true) (e : finT x bs = some (t, f)) (ey : ySeq t f = some ys) :
    ∃ l vs o, seqOf h v = some ([(l, o)], vs) ∧ Rds (Pd O n0 f) h vs (lvsT ys) ∧ ys = (lvsT ys).map (fun x => mkOld x f) ∧ SrcP h ow sr nm2 [(l, o)] ∧ ((isLsT t = true ∧ ∃ us, o = .lst us) ∨ (isLsT t = false ∧ ∃ us, o = .tup us)) := by
  have r := p.fin B e
  obtain ⟨l, vs, rfl, rv, ey2, cs⟩ := ySeq_ok r ey
  have loc : ¬ isStr sr l ∧ ∀ j, ow[j]? = some (some l) → nm2 j = true := by
    cases x with
    | inr x =>
      have q : Rd' (Pd O n0 x.fr) h (.ref l) x.t := p
      have : l ∉ O := rd_no q
      exact ⟨(B.avoid this).2, fun j hj => absurd ⟨j, hj⟩ (B.avoid this).1⟩
    | inl i =>
      have q : σ[i]? = some (some (.ref l)) := p
      unfold finT at e
      simp only [] at e
      split at e
      · rename_i t0 own fr es
        obtain ⟨v0, e1, q0⟩ := B.slots i _ es
        rw [q] at e1
        cases e1
        split at q0
        · obtain ⟨m, l0, a, e2, c, d⟩ := q0
          cases e2
          refine ⟨(B.inO l ⟨i, a⟩).2, fun j hj => ?_⟩
          rw [B.inj j i l hj a]
          exact hn i rfl
        · have : l ∉ O := rd_no q0
          exact ⟨(B.avoid this).2, fun j hj => absurd ⟨j, hj⟩ (B.avoid this).1⟩
      · cases e
  rcases cs with ⟨⟨ts, rfl⟩, q, es⟩ | ⟨⟨ts, rfl⟩, q, es⟩
  · exact ⟨l, vs, _, es, rv, ey2, fun p hp => by
      rw [List.mem_singleton.mp hp]; exact ⟨q, loc⟩, .inl ⟨rfl, vs, rfl⟩⟩
  · exact ⟨l, vs, _, es, rv, ey2, fun p hp => by
      rw [List.mem_singleton.mp hp]; exact ⟨q, loc⟩, .inr ⟨rfl, vs, rfl⟩⟩
theorem ones {f : Bool} : ∀ {vs : List Va} {ts : List Tr}, Rds (Pd O n0 f) h vs ts → YsP n0 h O (vs.map .one) ((ts.map fun x => mkOld x f).map .one)
  | _, _, .nil => .nil
  | _, _, .cons a r => .cons ⟨rfl, a.old⟩ (ones r)
theorem enums {f : Bool} : ∀ (n : Nat) {vs : List Va} {ts : List Tr}, Rds (Pd O n0 f) h vs ts → YsP n0 h O (enumY n vs) (enumB n (ts.map fun x => mkOld x f))
  | _, _, _, .nil => .nil
  | n, _, _, .cons a r => .cons ⟨⟨rfl, .int _⟩, rfl, a.old⟩ (enums (n + 1) r)
theorem zips {f g : Bool} : ∀ {vs ws : List Va} {ts us : List Tr}, Rds (Pd O n0 f) h vs ts → Rds (Pd O n0 g) h ws us → YsP n0 h O ((vs.zip ws).map fun p => .two p.1 p.2) (((ts.map fun x => mkOld x f).zip (us.map fun x => mkOld x g)).map fun p => .two p.1 p.2)
  | _, _, _, _, .nil, _ => by simp; exact .nil
  | _, _, _, _, .cons a r, .nil => by simp; exact .nil
  | _, _, _, _, .cons a r, .cons b s => .cons ⟨⟨rfl, a.old⟩, rfl, b.old⟩ (zips r s)
theorem rngs : ∀ (l : List Int), YsP n0 h O (rngY l) (l.map fun k => .one ⟨.int k, true, false⟩)
  | [] => .nil
  | _ :: l => .cons ⟨rfl, .int _⟩ (rngs l)
theorem val_I {a : E} (ha : EvOk Ca C a) : EvIOk Ca C (.val a) := by
  intro n0 h σ bs bs' O ow sr nm2 ys B e
  have e : ((srcT a (bev C a) nm2 bs).bind fun x s1 => match finT x s1 with
    | some (t, f) => match ySeq t f with
      | some xs => .ok (xs.map .one) s1
      | none => .bad
    | none => .bad) = .ok ys bs' := e
  obtain ⟨x, s1, e1, e⟩ := rb_bind e
  obtain ⟨⟨h1, v, O1, ow1, q1, B1, q3, p1⟩, hn⟩ := src_ok ha B e1
  split at e
  · rename_i t f ef
    split at e
    · rename_i xs ey
      cases e
      obtain ⟨l, vs, o, es, rv, ey2, sp, _⟩ := src_at B1 p1 hn ef ey
      refine ⟨h1, ⟨[(l, o)], vs.map .one⟩, O1, ow1, ?_, B1, q3, by rw [ey2]; exact ones rv, sp⟩
      show (ev Ca a σ h).bind _ = _
      rw [q1]
      show (match seqOf h1 v with
        | some (s, xs) => RE.ok (⟨s, xs.map .one⟩ : Itr) h1
        | none => .bad) = _
      rw [es]
    · cases e
  · cases e
theorem enum_I {a : E} (ha : EvOk Ca C a) : EvIOk Ca C (.enum a) := by
  intro n0 h σ bs bs' O ow sr nm2 ys B e
  have e : ((srcT a (bev C a) nm2 bs).bind fun x s1 => match finT x s1 with
    | some (t, f) => match ySeq t f with
      | some xs => .ok (enumB 0 xs) s1
      | none => .bad
    | none => .bad) = .ok ys bs' := e
  obtain ⟨x, s1, e1, e⟩ := rb_bind e
  obtain ⟨⟨h1, v, O1, ow1, q1, B1, q3, p1⟩, hn⟩ := src_ok ha B e1
  split at e
  · rename_i t f ef
    split at e
    · rename_i xs ey
      · cases e
        obtain ⟨l, vs, o, es, rv, ey2, sp, kd⟩ := src_at B1 p1 hn ef ey
        refine ⟨h1, ⟨[(l, o)], enumY 0 vs⟩, O1, ow1, ?_, B1, q3, by rw [ey2]; exact enums 0 rv, sp⟩
        show (ev Ca a σ h).bind _ = _
        rw [q1]
        show (match seqOf h1 v with
          | some (s, xs) => RE.ok (⟨s, enumY 0 xs⟩ : Itr) h1
          | none => .bad) = _
        rw [es]
    · cases e
  · cases e
theorem rng_I {as : Es} (ha : EvTOk Ca C as) : EvIOk Ca C (.rng as) := by
  intro n0 h σ bs bs' O ow sr nm2 ys B e
  have e : ((bevT C as bs).bind fun xs s1 => match finsT xs s1 with
    | some (ts, _) => match rngT ts with
      | some (i, j) => .ok ((rngL i j).map fun k => .one ⟨.int k, true, false⟩) s1
      | none => .bad
    | none => .bad) = .ok ys bs' := e
  obtain ⟨xs, s1, e1, e⟩ := rb_bind e
  obtain ⟨h1, vs, O1, ow1, q1, B1, q3, p1⟩ := ha B e1
  split at e
  · rename_i ts f ef
    split at e
    · rename_i i j er
      cases e
      refine ⟨h1, ⟨[], rngY (rngL i j)⟩, O1, ow1, ?_, B1, q3, rngs _, fun p hp => by cases hp⟩
      show (evs Ca as σ h).bind _ = _
      rw [q1]
      show (match rngV vs with
        | some (i, j) => RE.ok (⟨[], rngY (rngL i j)⟩ : Itr) h1
        | none => .bad) = _
      rw [rngT_eq (p1.fin B1 ef) er]
    · cases e
  · cases e
theorem zip_I {a b : E} (ha : EvOk Ca C a) (hb : EvOk Ca C b) : EvIOk Ca C (.zip a b) := by
  intro n0 h σ bs bs' O ow sr nm2 ys B e
  have e : ((srcT a (bev C a) nm2 bs).bind fun x s1 => (srcT b (bev C b) nm2 s1).bind fun y s2 => match finT x s2, finT y s2 with
    | some (t, f), some (u, g) => if sameT t u = true then match ySeq t f, ySeq u g with
        | some xs, some ys => .ok ((xs.zip ys).map fun p => .two p.1 p.2) s2
        | _, _ => .bad
      else .bad
    | _, _ => .bad) = .ok ys bs' := e
  obtain ⟨x, s1, e1, e⟩ := rb_bind e
  obtain ⟨⟨h1, v, O1, ow1, q1, B1, q3, p1⟩, hn⟩ := src_ok ha B e1
  obtain ⟨y, s2, e2, e⟩ := rb_bind e
  obtain ⟨⟨h2, w, O2, ow2, r1, B2, r3, p2⟩, hn2⟩ := src_ok hb B1 e2
  have p1 := p1.step B1 r3
  split at e
  · rename_i t f u g ef eg
    split at e
    · rename_i hsm
      split at e
      · rename_i xs zs ey ez
        cases e
        obtain ⟨l, vs, o, es, rv, ey2, sp, kd⟩ := src_at B2 p1 hn ef ey
        obtain ⟨l2, ws, o2, es2, rw_, ez2, sp2, kd2⟩ := src_at B2 p2 hn2 eg ez
        have hk : sameK [(l, o)] [(l2, o2)] = true := by
          rcases kd with ⟨z, us, rfl⟩ | ⟨z, us, rfl⟩ <;> rcases kd2 with ⟨z2, us2, rfl⟩ | ⟨z2, us2, rfl⟩ <;> first
            | rfl
            | (exfalso; cases t <;> cases u <;> first | (cases hsm; done) | (cases z; done) | (cases z2; done))
        refine ⟨h2, ⟨[(l, o)] ++ [(l2, o2)], (vs.zip ws).map fun (p : Va × Va) => Ya.two p.1 p.2⟩, O2, ow2, ?_, B2, Stp.trans B.lt q3 r3, by rw [ey2, ez2]; exact zips rv rw_, fun p hp => ?_⟩
        · show (ev Ca a σ h).bind _ = _
          rw [q1]
          show (ev Ca b σ h1).bind _ = _
          rw [r1]
          show (match seqOf h2 v, seqOf h2 w with
            | some (s, xs), some (t, ys) => if sameK s t = true then RE.ok (⟨s ++ t, (xs.zip ys).map fun (p : Va × Va) => Ya.two p.1 p.2⟩ : Itr) h2 else .bad
            | _, _ => .bad) = _
          rw [es, es2]
          simp only []
          rw [if_pos hk]
        · rcases List.mem_append.mp hp with z | z
          · exact sp p z
          · exact sp2 p z
      · cases e
    · cases e
  · cases e
end
end HA

namespace HA
open PySem PySem.Spec PyProof.Rows L2
section
variable {n0 : Nat} {h : Hh} {σ : Sl} {bs bs' : BS} {O : List Nat} {ow : Ow} {sr : So} {Ca : Cf} {C : Cb}

/-! ### stores -/
/-- a slot forgets what it owned; its new entry b -/
theorem BR.put {i : Nat} {v : Option Va} {b : Sb} {w : Option Nat} (B : BR n0 h σ bs O ow sr) (hb : i < bs.sl.length → SlotOk n0 h O (ow.set i w) sr i (some v) b) (hw : ∀ l, w = some l → l ∈ O ∧ ¬ isStr sr l ∧ ∀ j : Nat, ow[j]? ≠ some (some l)) :
    BR n0 h (σ.set i v) ⟨bs.sl.set i b, bs.st⟩ O (ow.set i w) sr := by
  have back : ∀ (j x : Nat), (ow.set i w)[j]? = some (some x) → (ow[j]? = some (some x) ∧ j ≠ i) ∨ (j = i ∧ w = some x) := fun j x z => by
    rw [List.getElem?_set] at z
    split at z
    · rename_i hj
      split at z
      · cases z; exact .inr ⟨hj.symm, rfl⟩
      · cases z
    · rename_i hj; exact .inl ⟨z, fun e => hj e.symm⟩
  refine ⟨by rw [List.length_set, List.length_set]; exact B.len, by rw [List.length_set, List.length_set]; exact B.ol, fun j c eb => ?_, fun l ⟨j, z⟩ => ?_, fun j k l z1 z2 => ?_, B.str, B.sO, B.lt, B.n0⟩
  · rw [List.getElem?_set] at eb
    rw [List.getElem?_set]
    split at eb
    · rename_i hj
      subst hj
      split at eb
      · rename_i hi
        cases eb
        rw [if_pos rfl, if_pos (by rw [B.len]; exact hi)]
        exact hb hi
      · cases eb
    · rename_i hj
      rw [if_neg hj]
      have q := B.slots j c eb
      cases c with
      | no => trivial
      | st => exact q
      | val t2 own2 fr2 =>
        obtain ⟨v2, e2, q⟩ := q
        refine ⟨v2, e2, ?_⟩
        split at q
        · rename_i ho
          rw [if_pos ho]
          obtain ⟨m2, l2, a2, rest⟩ := q
          exact ⟨m2, l2, by rw [List.getElem?_set, if_neg hj]; exact a2, rest⟩
        · rename_i ho
          rw [if_neg ho]
          exact q
  · rcases back j l z with ⟨z, _⟩ | ⟨_, z⟩
    · exact B.inO l ⟨j, z⟩
    · exact ⟨(hw l z).1, (hw l z).2.1⟩
  · rcases back j l z1 with ⟨z1, n1⟩ | ⟨e1, z1⟩ <;> rcases back k l z2 with ⟨z2, n2⟩ | ⟨e2, z2⟩
    · exact B.inj j k l z1 z2
    · exact absurd z1 ((hw l z2).2.2 j)
    · exact absurd z2 ((hw l z1).2.2 k)
    · rw [e1, e2]
theorem Stp.putS {h' : Hh} {O' : List Nat} {ow' : Ow} {nm : Nat → Bool} {i : Nat} {w : Option Nat} (s : Stp h O ow sr h' O' ow' sr nm) (hO : ∀ l, l ∈ O → l < h.length) (hw : ∀ l, w = some l → h.length ≤ l) : Stp h O ow sr h' O' (ow'.set i w) sr nm :=
  ⟨s.len, s.keep, s.oin, s.oout, fun j l z => by
    rw [List.getElem?_set] at z
    split at z
    · split at z
      · cases z; exact .inr (hw l rfl)
      · cases z
    · exact s.own j l z, s.str⟩
/-- the stores of plain values -/
theorem put_old {i : Nat} {v : Va} {x : Lv} (B : BR n0 h σ bs O ow sr) (u : x.uq = false) (r : Rd' (Pd O n0 x.fr) h v x.t) : BR n0 h (σ.set i (some v)) ⟨bs.sl.set i (.val x.t x.uq x.fr), bs.st⟩ O (ow.set i none) sr :=
  B.put (fun _ => ⟨v, rfl, by rw [u, if_neg Bool.false_ne_true]; exact r⟩) fun l z => by cases z
inductive OldsP (n0 : Nat) (h : Hh) (O : List Nat) : List Va → List Lv → Prop where
  | nil : OldsP n0 h O [] []
  | cons {v : Va} {x : Lv} {vs : List Va} {xs : List Lv} (u : x.uq = false) (r : Rd' (Pd O n0 x.fr) h v x.t) (t : OldsP n0 h O vs xs) : OldsP n0 h O (v :: vs) (x :: xs)
theorem olds_of {f : Bool} : ∀ {vs : List Va} {ts : List Tr}, Rds (Pd O n0 f) h vs ts → OldsP n0 h O vs (ts.map fun x => mkOld x f)
  | _, _, .nil => .nil
  | _, _, .cons a r => .cons rfl a.old (olds_of r)
theorem spread_B {t : Tg} {v : Va} {x : Lv} {ys : List Lv} (u : x.uq = false) (r : Rd' (Pd O n0 x.fr) h v x.t) (e : spreadB t x = some ys) : ∃ vs, spread h t v = some vs ∧ OldsP n0 h O vs ys := by
  cases t with
  | nm i =>
    cases e
    exact ⟨[v], rfl, .cons u r .nil⟩
  | _ =>
    have e : (match x.t with
      | .tup xs => some (xs.map fun y => mkOld y x.fr)
      | _ => none) = some ys := e
    cases ht : x.t with
    | tup ts =>
      rw [ht] at e r
      cases e
      cases r with
      | tup p q rr =>
        refine ⟨_, ?_, olds_of rr⟩
        unfold spread
        simp only [q]
    | _ => rw [ht] at e; cases e
/-- what a target of plain values does -/
theorem tg_B : ∀ {t : Tg} {vs : List Va} {xs : List Lv} {σ : Sl} {bs : BS} {ow : Ow} {sl' : List Sb}, BR n0 h σ bs O ow sr → OldsP n0 h O vs xs → tgB t xs bs.sl = some sl' →
    ∃ σ' ow', tgA h t vs σ = some σ' ∧ BR n0 h σ' ⟨sl', bs.st⟩ O ow' sr ∧ (∀ (j l : Nat), ow'[j]? = some (some l) → ow[j]? = some (some l)) ∧ (∀ j : Nat, j ∉ tgSlots t → σ'[j]? = σ[j]? ∧ sl'[j]? = bs.sl[j]? ∧ ow'[j]? = ow[j]?) ∧ σ'.length = σ.length := by
  intro t
  induction t with
  | nm i =>
    intro vs xs σ bs ow sl' B p e
    cases p with
    | nil => cases e
    | cons u r t =>
      cases t with
      | cons _ _ _ => cases e
      | nil =>
        cases e
        refine ⟨_, _, rfl, put_old B u r, fun j l z => ?_, fun j hj => ?_, List.length_set⟩
        · rw [List.getElem?_set] at z
          split at z
          · split at z <;> cases z
          · exact z
        · have : i ≠ j := fun z => hj (by rw [z]; exact List.mem_singleton.mpr rfl)
          exact ⟨List.getElem?_set_ne this, List.getElem?_set_ne this, List.getElem?_set_ne this⟩
  | te =>
    intro vs xs σ bs ow sl' B p e
    cases p with
    | nil => cases e; exact ⟨σ, ow, rfl, B, fun _ _ z => z, fun _ _ => ⟨rfl, rfl, rfl⟩, rfl⟩
    | cons _ _ _ => cases e
  | tp a r iha ihr =>
    intro vs xs σ bs ow sl' B p e
    cases p with
    | nil => cases e
    | cons u rr tt =>
      rename_i v x vs xs
      have e : (match spreadB a x with
        | some ys => match tgB a ys bs.sl with
          | some σ' => tgB r xs σ'
          | none => none
        | none => none) = some sl' := e
      split at e
      · rename_i ys ey
        split at e
        · rename_i sl1 e1
          obtain ⟨us, h1, h2⟩ := spread_B u rr ey
          obtain ⟨σ1, ow1, q1, B1, m1, k1, n1⟩ := iha B h2 e1
          obtain ⟨σ2, ow2, q2, B2, m2, k2, n2⟩ := ihr B1 tt e
          refine ⟨σ2, ow2, ?_, B2, fun j l z => m1 j l (m2 j l z), fun j hj => ?_, n2.trans n1⟩
          · show (match spread h a v with
              | some ys => match tgA h a ys σ with
                | some σ' => tgA h r vs σ'
                | none => none
              | none => none) = _
            rw [h1]
            simp only []
            rw [q1]
            exact q2
          · obtain ⟨a1, a2, a3⟩ := k1 j fun z => hj (List.mem_append_left _ z)
            obtain ⟨b1, b2, b3⟩ := k2 j fun z => hj (List.mem_append_right _ z)
            exact ⟨b1.trans a1, b2.trans a2, b3.trans a3⟩
        · cases e
      · cases e
theorem tgY_B {t : Tg} {y : Ya} {z : Yb} {sl' : List Sb} (B : BR n0 h σ bs O ow sr) (p : YvP n0 h O y z) (e : tgYB t z bs.sl = some sl') :
    ∃ σ' ow', tgY h t y σ = some σ' ∧ BR n0 h σ' ⟨sl', bs.st⟩ O ow' sr ∧ (∀ (j l : Nat), ow'[j]? = some (some l) → ow[j]? = some (some l)) ∧ (∀ j : Nat, j ∉ tgSlots t → σ'[j]? = σ[j]? ∧ sl'[j]? = bs.sl[j]? ∧ ow'[j]? = ow[j]?) ∧ σ'.length = σ.length := by
  cases y with
  | one v =>
    cases z with
    | two _ _ => exact p.elim
    | one x =>
      have e : (match spreadB t x with
        | some xs => tgB t xs bs.sl
        | none => none) = some sl' := e
      split at e
      · rename_i ys ey
        obtain ⟨us, h1, h2⟩ := spread_B p.1 p.2 ey
        obtain ⟨σ1, ow1, q1, rest⟩ := tg_B B h2 e
        refine ⟨σ1, ow1, ?_, rest⟩
        show (match spread h t v with
          | some xs => tgA h t xs σ
          | none => none) = _
        rw [h1]
        exact q1
      · cases e
  | two v w =>
    cases z with
    | one _ => exact p.elim
    | two x y =>
      have ps : OldsP n0 h O [v, w] [x, y] := .cons p.1.1 p.1.2 (.cons p.2.1 p.2.2 .nil)
      cases t with
      | nm i => cases e
      | te => obtain ⟨σ1, ow1, q1, rest⟩ := tg_B B ps e; exact ⟨σ1, ow1, q1, rest⟩
      | tp a r => obtain ⟨σ1, ow1, q1, rest⟩ := tg_B B ps e; exact ⟨σ1, ow1, q1, rest⟩

/-! ### within a comprehension -/
def wipeO (ow : Ow) : List Nat → Ow
  | [] => ow
  | v :: vs => (wipeO ow vs).set v none
theorem BR.wipe (B : BR n0 h σ bs O ow sr) : ∀ vs : List Nat, BR n0 h (wipeA σ vs) ⟨wipeB bs.sl vs, bs.st⟩ O (wipeO ow vs) sr
  | [] => B
  | v :: vs => (BR.wipe B vs).put (v := none) (b := .no) (w := none) (fun _ => trivial) fun l z => by cases z
theorem wipeO_own : ∀ {vs : List Nat} {j l : Nat}, (wipeO ow vs)[j]? = some (some l) → ow[j]? = some (some l) ∧ j ∉ vs
  | [], j, l, z => ⟨z, by simp⟩
  | v :: vs, j, l, z => by
    unfold wipeO at z
    rw [List.getElem?_set] at z
    split at z
    · split at z <;> cases z
    · rename_i hj
      obtain ⟨a, b⟩ := wipeO_own z
      exact ⟨a, fun w => by
        rcases List.mem_cons.mp w with w | w
        · exact hj w.symm
        · exact b w⟩
theorem wipeA_get : ∀ {vs : List Nat} {j : Nat}, j ∉ vs → (wipeA σ vs)[j]? = σ[j]? ∧ ∀ sl : List Sb, (wipeB sl vs)[j]? = sl[j]?
  | [], j, _ => ⟨rfl, fun _ => rfl⟩
  | v :: vs, j, hj => by
    obtain ⟨a, b⟩ := wipeA_get (vs := vs) (j := j) fun z => hj (List.mem_cons_of_mem _ z)
    have : v ≠ j := fun z => hj (by rw [z]; exact List.mem_cons_self)
    unfold wipeA
    refine ⟨by rw [List.getElem?_set_ne this]; exact a, fun sl => ?_⟩
    unfold wipeB
    rw [List.getElem?_set_ne this]
    exact b sl
/-- the owners behind a comprehension -/
def backO (ow0 ow1 : Ow) : List Nat → Ow
  | [] => ow1
  | v :: vs => (backO ow0 ow1 vs).set v (ow0.getD v none)
theorem backB_get {σ0 σ1 : List Sb} {ow0 ow1 : Ow} (hl : σ0.length = σ1.length) (hl2 : ow0.length = ow1.length) (hl3 : ow0.length = σ0.length) : ∀ (vs : List Nat), (backB σ0 σ1 vs).length = σ1.length ∧ (backO ow0 ow1 vs).length = ow1.length ∧ ∀ j : Nat,
    (j ∉ vs → (backB σ0 σ1 vs)[j]? = σ1[j]? ∧ (backO ow0 ow1 vs)[j]? = ow1[j]?) ∧ (j ∈ vs → j < σ0.length → (∀ b, (backB σ0 σ1 vs)[j]? = some b → b = .no ∨ ∃ t own fr, b = .val t own fr ∧ σ0[j]? = some b) ∧ (backO ow0 ow1 vs)[j]? = ow0[j]?)
  | [] => ⟨rfl, rfl, fun j => ⟨fun _ => ⟨rfl, rfl⟩, fun z => by cases z⟩⟩
  | v :: vs => by
    obtain ⟨l1, l2, ih⟩ := backB_get hl hl2 hl3 vs
    refine ⟨by unfold backB; rw [List.length_set]; exact l1, by unfold backO; rw [List.length_set]; exact l2, fun j => ⟨fun hj => ?_, fun hj hlt => ?_⟩⟩
    · have : v ≠ j := fun z => hj (by rw [z]; exact List.mem_cons_self)
      unfold backB backO
      rw [List.getElem?_set_ne this, List.getElem?_set_ne this]
      exact (ih j).1 fun z => hj (List.mem_cons_of_mem _ z)
    · unfold backB backO
      by_cases hv : v = j
      · subst hv
        have e1 : ow0[v]? = some ow0[v] := List.getElem?_eq_getElem (by omega)
        refine ⟨fun b eb => ?_, ?_⟩
        · rw [List.getElem?_set_self (by rw [l1, ← hl]; exact hlt)] at eb
          cases eb
          split
          · rename_i t own fr es; exact .inr ⟨t, own, fr, rfl, es⟩
          · exact .inl rfl
        · rw [List.getElem?_set_self (by rw [l2]; omega), List.getD_eq_getElem?_getD, e1]
          rfl
      · rw [List.getElem?_set_ne hv, List.getElem?_set_ne hv]
        rcases List.mem_cons.mp hj with z | z
        · exact absurd z.symm hv
        · exact (ih j).2 z hlt
end
end HA

namespace HA
open PySem PySem.Spec PyProof.Rows L2
section
variable {n0 : Nat} {h : Hh} {σ : Sl} {bs bs' : BS} {O : List Nat} {ow : Ow} {sr : So} {Ca : Cf} {C : Cb}

theorem BR.back {own : List Nat} {h2 : Hh} {σ1 : Sl} {bs2 : BS} {O2 : List Nat} {ow1 ow2 : Ow} {nm : Nat → Bool} (B : BR n0 h σ bs O ow sr) (S : Stp h O ow1 sr h2 O2 ow2 sr nm) (B2 : BR n0 h2 σ1 bs2 O2 ow2 sr)
    (w1 : ∀ (j l : Nat), ow1[j]? = some (some l) → ow[j]? = some (some l)) (w2 : ∀ j : Nat, j ∈ own → ∀ l, ow[j]? = some (some l) → ¬ isOwn ow1 l) (w3 : ∀ j : Nat, j ∉ own → σ1[j]? = σ[j]?) (w4 : σ1.length = σ.length) :
    BR n0 h2 σ ⟨backB bs.sl bs2.sl own, bs2.st⟩ O2 (backO ow ow2 own) sr ∧ Stp h O ow sr h2 O2 (backO ow ow2 own) sr nm := by
  have hl : bs.sl.length = bs2.sl.length := by rw [← B.len, ← w4, B2.len]
  have hl2 : ow.length = ow2.length := by rw [B.ol, B2.ol, hl]
  obtain ⟨l1, l2, get⟩ := backB_get hl hl2 B.ol own
  have inO0 : ∀ j l, ow[j]? = some (some l) → j < bs.sl.length := fun j l e => by rw [← B.ol]; exact (List.getElem?_eq_some_iff.mp e).1
  have own_at : ∀ (j l : Nat), (backO ow ow2 own)[j]? = some (some l) → (j ∉ own ∧ ow2[j]? = some (some l)) ∨ (j ∈ own ∧ ow[j]? = some (some l)) := fun j l e => by
    by_cases hj : j ∈ own
    · have hlt : j < bs.sl.length := by
        have := (List.getElem?_eq_some_iff.mp e).1
        rw [l2, ← hl2, B.ol] at this
        exact this
      rw [((get j).2 hj hlt).2] at e
      exact .inr ⟨hj, e⟩
    · rw [((get j).1 hj).2] at e
      exact .inl ⟨hj, e⟩
  have no1 : ∀ j l, j ∈ own → ow[j]? = some (some l) → ¬ isOwn ow1 l := fun j l a b => w2 j a l b
  have no2 : ∀ j l, j ∈ own → ow[j]? = some (some l) → ¬ isOwn ow2 l := fun j l a b ⟨k, hk⟩ => by
    rcases S.own k l hk with z | z
    · exact no1 j l a b ⟨k, z⟩
    · have := B.lt l (B.inO l ⟨j, b⟩).1; omega
  refine ⟨⟨by rw [l1, ← hl]; exact B.len, by rw [l1, l2, ← hl, ← hl2]; exact B.ol, fun j b eb => ?_, fun l ⟨j, z⟩ => ?_, fun j k l z1 z2 => ?_, B2.str, B2.sO, B2.lt, B2.n0⟩, ⟨S.len, fun l o e s w => S.keep l o e s fun j hj => w j (w1 j l hj), fun l hO no => S.oin l hO fun ⟨j, z⟩ => no ⟨j, w1 j l z⟩, S.oout, fun j l z => ?_, S.str⟩⟩
  · have hlt : j < bs.sl.length := by
      have := (List.getElem?_eq_some_iff.mp eb).1
      rw [l1, ← hl] at this; exact this
    by_cases hj : j ∈ own
    · obtain ⟨g1, g2⟩ := (get j).2 hj hlt
      rcases g1 b eb with rfl | ⟨t, own', fr, rfl, e0⟩
      · trivial
      · obtain ⟨v, e1, q⟩ := B.slots j _ e0
        refine ⟨v, e1, ?_⟩
        split at q
        · rename_i ho
          rw [if_pos ho]
          obtain ⟨m, l, a, rfl, c, d⟩ := q
          refine ⟨m, l, by rw [g2]; exact a, rfl, c, ?_⟩
          refine d.imp (fun x m o p q => ?_) fun x o e q => ?_
          · obtain ⟨n1, n2⟩ := B.avoid p.1
            refine ⟨⟨fun z => ?_, p.2⟩, S.keep x o q n2 fun k hk => absurd ⟨k, w1 k x hk⟩ n1⟩
            rcases S.oout x z with z | z
            · exact p.1 z
            · have := lt_of_get q; omega
          · cases e
            exact S.keep _ o q (B.inO _ ⟨j, a⟩).2 fun k hk => absurd ⟨k, hk⟩ (no1 j _ hj a)
        · rename_i ho
          rw [if_neg ho]
          refine q.imp fun x m o p q => ?_
          obtain ⟨n1, n2⟩ := B.avoid p.1
          refine ⟨⟨fun z => ?_, p.2⟩, S.keep x o q n2 fun k hk => absurd ⟨k, w1 k x hk⟩ n1⟩
          rcases S.oout x z with z | z
          · exact p.1 z
          · have := lt_of_get q; omega
    · obtain ⟨g1, g2⟩ := (get j).1 hj
      rw [g1] at eb
      have q := B2.slots j b eb
      rw [w3 j hj] at q
      cases b with
      | no => trivial
      | st => exact q
      | val t own' fr =>
        obtain ⟨v, e1, q⟩ := q
        refine ⟨v, e1, ?_⟩
        split at q
        · rename_i ho
          rw [if_pos ho]
          obtain ⟨m, l, a, rest⟩ := q
          exact ⟨m, l, by rw [g2]; exact a, rest⟩
        · rename_i ho
          rw [if_neg ho]
          exact q
  · rcases own_at j l z with ⟨_, z⟩ | ⟨hj, z⟩
    · exact B2.inO l ⟨j, z⟩
    · exact ⟨S.oin l (B.inO l ⟨j, z⟩).1 (no1 j l hj z), (B.inO l ⟨j, z⟩).2⟩
  · rcases own_at j l z1 with ⟨n1, z1⟩ | ⟨n1, z1⟩ <;> rcases own_at k l z2 with ⟨n2, z2⟩ | ⟨n2, z2⟩
    · exact B2.inj j k l z1 z2
    · exact absurd ⟨j, z1⟩ (no2 k l n2 z2)
    · exact absurd ⟨k, z2⟩ (no2 j l n1 z1)
    · exact B.inj j k l z1 z2
  · rcases own_at j l z with ⟨_, z⟩ | ⟨_, z⟩
    · rcases S.own j l z with z | z
      · exact .inl (w1 j l z)
      · exact .inr z
    · exact .inl z
def cndB (C : Cb) : Es → BS → RB Bool
  | .nil => fun s => .ok true s
  | .cons c _ => fun s => (preT c (bev C c) s).bind fun x s1 => truB x s1
  | .star _ _ => fun _ => .bad
def cndA (Ca : Cf) : Es → Sl → Hh → RE Bool
  | .nil => fun _ h => .ok true h
  | .cons c _ => fun σ h => tst (ev Ca c σ h)
  | .star _ _ => fun _ _ => .bad
def CndOk (Ca : Cf) (C : Cb) (cs : Es) : Prop := ∀ {n0 : Nat} {h : Hh} {σ : Sl} {bs bs' : BS} {O : List Nat} {ow : Ow} {sr : So} {k : Bool}, BR n0 h σ bs O ow sr → cndB C cs bs = .ok k bs' →
  ∃ h' O' ow', cndA Ca cs σ h = .ok k h' ∧ BR n0 h' σ bs' O' ow' sr ∧ Stp h O ow sr h' O' ow' sr (fun j => nmEs j cs)
theorem tst_ok {c : E} (hc : EvOk Ca C c) {k : Bool} (B : BR n0 h σ bs O ow sr) (e : ((preT c (bev C c) bs).bind fun x s1 => truB x s1) = .ok k bs') :
    ∃ h' O' ow', tst (ev Ca c σ h) = .ok k h' ∧ BR n0 h' σ bs' O' ow' sr ∧ Stp h O ow sr h' O' ow' sr (fun j => nmE j c) := by
  obtain ⟨x, s1, e1, e⟩ := rb_bind e
  obtain ⟨h1, v, O1, ow1, q1, B1, q3, p1⟩ := pre_ok hc B e1
  obtain ⟨e4, rfl⟩ := truB_ok B1 p1 e
  refine ⟨h1, O1, ow1, ?_, B1, q3⟩
  unfold tst
  rw [q1]
  show liftO (truV v h1) h1 = _
  rw [e4]
  rfl
theorem cnd_nil : CndOk Ca C .nil := by
  intro n0 h σ bs bs' O ow sr k B e
  cases e
  exact ⟨h, O, ow, rfl, B, .refl⟩
theorem cnd_cons {c : E} {r : Es} (hc : EvOk Ca C c) : CndOk Ca C (.cons c r) := by
  intro n0 h σ bs bs' O ow sr k B e
  obtain ⟨h1, O1, ow1, q1, B1, q3⟩ := tst_ok hc B e
  exact ⟨h1, O1, ow1, q1, B1, q3.nm fun j hj => by
    have hj : (nmE j c && nmEs j r) = true := hj
    rw [Bool.and_eq_true] at hj; exact hj.1⟩
theorem cnd_star {c : E} {r : Es} : CndOk Ca C (.star c r) := by
  intro n0 h σ bs bs' O ow sr k B e
  cases e
/-- one turn of a comprehension -/
theorem body_B {own : List Nat} {tg : Tg} {cs : Es} {e : E} (hc : CndOk Ca C cs) (he : EvOk Ca C e) {y : Ya} {z : Yb} {r : Option Lv} (B : BR n0 h σ bs O ow sr) (p : YvP n0 h O y z) (eb : compBodyB own tg (cndB C cs) (bev C e) z bs = .ok r bs') :
    ∃ h' ra O' ow', compBody own tg (cndA Ca cs) (ev Ca e) σ y h = .ok ra h' ∧ BR n0 h' σ bs' O' ow' sr ∧ Stp h O ow sr h' O' ow' sr (fun j => nmEs j cs && nmE j e) ∧ ((r = none ∧ ra = none) ∨ ∃ x v, r = some x ∧ ra = some v ∧ Rd' (Pd O' n0 x.fr) h' v x.t) := by
  unfold compBodyB at eb
  split at eb
  case isFalse => cases eb
  rename_i hsub
  split at eb
  · rename_i sl1 e1
    obtain ⟨σ1, ow1, q1, B1, m1, k1, n1⟩ := tgY_B (B.wipe own) p e1
    have b1 : ∀ (j l : Nat), ow1[j]? = some (some l) → ow[j]? = some (some l) := fun j l z => (wipeO_own (m1 j l z)).1
    have b2 : ∀ j : Nat, j ∈ own → ∀ l, ow[j]? = some (some l) → ¬ isOwn ow1 l := fun j hj l e ⟨k, hk⟩ => by
      obtain ⟨a, b⟩ := wipeO_own (m1 k l hk)
      have := B.inj j k l e a
      exact b (by rw [← this]; exact hj)
    have b3 : ∀ j : Nat, j ∉ own → σ1[j]? = σ[j]? := fun j hj => by
      have ht : j ∉ tgSlots tg := fun z => hj (of_decide_eq_true (List.all_eq_true.mp hsub j z))
      rw [(k1 j ht).1]
      exact (wipeA_get hj).1
    have b4 : σ1.length = σ.length := by
      have z : ∀ vs : List Nat, (wipeA σ vs).length = σ.length := fun vs => by
        induction vs with
        | nil => rfl
        | cons v vs ih => unfold wipeA; rw [List.length_set, ih]
      rw [n1, z]
    have ea : compBody own tg (cndA Ca cs) (ev Ca e) σ y h = noExc ((cndA Ca cs σ1 h).bind fun b h1 => if b = true then (ev Ca e σ1 h1).bind fun v h2 => .ok (some v) h2 else .ok none h1) := by
      unfold compBody
      rw [q1]
    obtain ⟨b, s1, e2, eb⟩ := rb_bind eb
    obtain ⟨h1, O1, ow1', c1, c2, c3⟩ := hc B1 e2
    split at eb
    · rename_i hb
      subst hb
      obtain ⟨x, s2, e3, eb⟩ := rb_bind eb
      cases eb
      obtain ⟨h2, v, O2, ow2, d1, d2, d3, d4⟩ := (he c2 e3).forget c2
      obtain ⟨B3, S3⟩ := B.back (Stp.trans B.lt c3 d3) d2 b1 b2 b3 b4
      refine ⟨h2, some v, O2, _, ?_, B3, S3, .inr ⟨x, v, rfl, rfl, d4⟩⟩
      rw [ea, c1]
      show noExc ((ev Ca e σ1 h1).bind fun v h2 => RE.ok (some v) h2) = _
      rw [d1]
      rfl
    · rename_i hb
      cases eb
      rw [Bool.not_eq_true] at hb
      subst hb
      obtain ⟨B3, S3⟩ := B.back c3 c2 b1 b2 b3 b4
      refine ⟨h1, none, O1, _, ?_, B3, S3.nm fun j hj => by rw [Bool.and_eq_true] at hj; exact hj.1, .inl ⟨rfl, rfl⟩⟩
      rw [ea, c1]
      rfl
  · cases eb
theorem Stp.setNew {h0 : Hh} {O0 : List Nat} {ow0 : Ow} {nm : Nat → Bool} {D : Nat} {o : Ob} (S : Stp h0 O0 ow0 sr h O ow sr nm) (hD : h0.length ≤ D) : Stp h0 O0 ow0 sr (h.set D o) O ow sr nm :=
  ⟨by rw [List.length_set]; exact S.len, fun l o' e s w => by
    have := lt_of_get e
    rw [List.getElem?_set_ne (by omega)]
    exact S.keep l o' e s w, S.oin, S.oout, S.own, S.str⟩
/-- a cell that no slot reaches is changed -/
theorem BR.setD {D : Nat} {o : Ob} (B : BR n0 h σ bs O ow sr) (hD : D ∈ O) (no : ¬ isOwn ow D) (ns : ¬ isStr sr D) : BR n0 (h.set D o) σ bs O ow sr := by
  have same : ∀ x o', x ≠ D → h[x]? = some o' → (h.set D o)[x]? = some o' := fun x o' hx e => by
    rw [List.getElem?_set_ne (fun z => hx z.symm)]; exact e
  refine ⟨B.len, B.ol, fun i b e => ?_, B.inO, B.inj, fun p e => ?_, B.sO, fun l z => by rw [List.length_set]; exact B.lt l z, by rw [List.length_set]; exact B.n0⟩
  · have q := B.slots i b e
    cases b with
    | no => trivial
    | st => exact q
    | val t own fr =>
      obtain ⟨v, e1, q⟩ := q
      refine ⟨v, e1, ?_⟩
      split at q
      · rename_i ho
        rw [if_pos ho]
        obtain ⟨m, l, a, rfl, c, d⟩ := q
        have hl : l ≠ D := fun z => no ⟨i, by rw [← z]; exact a⟩
        exact ⟨m, l, a, rfl, c, d.imp (fun x m o' p q => ⟨p, same x o' (fun z => p.1 (by rw [z]; exact hD)) q⟩) fun x o' e q => by cases e; exact same _ o' hl q⟩
      · rename_i ho
        rw [if_neg ho]
        exact q.imp fun x m o' p q => ⟨p, same x o' (fun z => p.1 (by rw [z]; exact hD)) q⟩
  · obtain ⟨s1, s2, s3⟩ := B.str p e
    exact ⟨s1, same _ _ (fun z => ns ⟨p, e, .inl z.symm⟩) s2, same _ _ (fun z => ns ⟨p, e, .inr z.symm⟩) s3⟩
theorem compGo_cons' {D : Nat} {src : List (Nat × Ob)} {body : Ya → Hh → RE (Option Va)} {y : Ya} {ys : List Ya} {h : Hh} : compGo D src body (y :: ys) h = if live src h = true then
      (body y h).bind fun r h1 => match r with
        | none => compGo D src body ys h1
        | some v => match h1[D]? with
          | some (.lst acc) => if acc.length < BIG then compGo D src body ys (h1.set D (.lst (acc ++ [v]))) else .bad
          | _ => .bad
    else .bad := rfl
/-- the loop -/
theorem comp_loop {own : List Nat} {tg : Tg} {cs : Es} {e : E} {D : Nat} {src : List (Nat × Ob)} {h0 : Hh} {O0 : List Nat} {ow0 : Ow} {n0 : Nat} {sr : So} {σ : Sl} (hc : CndOk Ca C cs) (he : EvOk Ca C e) (hO0 : ∀ l, l ∈ O0 → l < h0.length) (hD0 : h0.length ≤ D) (hn : n0 ≤ D) (hs : ∀ p, p ∈ src → p.1 ≠ D) :
    ∀ (ys : List Ya) (zs : List Yb) {h : Hh} {bs bs' : BS} {O : List Nat} {ow : Ow} {acc : List Va} {acT : List Tr} {f : Bool} {x : Lv},
    BR n0 h σ bs O ow sr → Stp h0 O0 ow0 sr h O ow sr (fun j => nmEs j cs && nmE j e) → YsP n0 h O ys zs → SrcP h ow sr (fun j => nmEs j cs && nmE j e) src → D ∈ O → ¬ isOwn ow D → ¬ isStr sr D → h[D]? = some (.lst acc) → Rds (Pd O n0 f) h acc acT →
    compGoB (compBodyB own tg (cndB C cs) (bev C e)) zs acT f bs = .ok x bs' →
    ∃ h' O' ow', compGo D src (compBody own tg (cndA Ca cs) (ev Ca e) σ) ys h = .ok (.ref D) h' ∧ BR n0 h' σ bs' O' ow' sr ∧ Stp h0 O0 ow0 sr h' O' ow' sr (fun j => nmEs j cs && nmE j e) ∧ LvP n0 h0.length h' O' ow' sr (.ref D) x := by
  intro ys
  induction ys with
  | nil =>
    intro zs h bs bs' O ow acc acT f x B S Y Sp hD no ns hd rd eb
    cases Y
    cases eb
    refine ⟨h, O, ow, ?_, B, S, ?_⟩
    · show (if live src h = true then RE.ok (Va.ref D) h else .bad) = _
      rw [if_pos Sp.live]
    · unfold LvP
      rw [if_pos rfl]
      exact ⟨rfl, D, rfl, hD0, hD, no, ns, D, acc, rfl, hd, rd⟩
  | cons y ys ih =>
    intro zs h bs bs' O ow acc acT f x B S Y Sp hD no ns hd rd eb
    cases Y with
    | cons a Y =>
      rename_i z zs
      have eb : ((compBodyB own tg (cndB C cs) (bev C e) z bs).bind fun r bs1 => match r with
        | none => compGoB (compBodyB own tg (cndB C cs) (bev C e)) zs acT f bs1
        | some v => if acT.length < BIG then compGoB (compBodyB own tg (cndB C cs) (bev C e)) zs (acT ++ [v.t]) (f && v.fr) bs1 else .bad) = .ok x bs' := eb
      obtain ⟨r, s1, e1, eb⟩ := rb_bind eb
      obtain ⟨h1, ra, O1, ow1, q1, B1, S1, R⟩ := body_B hc he B a e1
      have S2 : Stp h0 O0 ow0 sr h1 O1 ow1 sr (fun j => nmEs j cs && nmE j e) := (Stp.trans hO0 S S1).nm fun j hj => by rw [hj]; rfl
      have Y1 : YsP n0 h1 O1 ys zs := Y.step B S1
      have Sp1 := Sp.step S1 fun j hj => hj
      have hD1 : D ∈ O1 := S1.oin D hD no
      have no1 : ¬ isOwn ow1 D := fun ⟨j, z⟩ => by
        rcases S1.own j D z with z | z
        · exact no ⟨j, z⟩
        · have := B.lt D hD; omega
      have hd1 : h1[D]? = some (.lst acc) := S1.keep D _ hd ns fun j hj => absurd ⟨j, hj⟩ no
      have rd1 : Rds (Pd O1 n0 f) h1 acc acT := rd.imp fun l m o p q => by
        obtain ⟨n1, n2⟩ := B.avoid p.1
        refine ⟨⟨fun z => ?_, p.2⟩, S1.keep l o q n2 fun j hj => absurd ⟨j, hj⟩ n1⟩
        rcases S1.oout l z with z | z
        · exact p.1 z
        · have := lt_of_get q; omega
      have e0 : compGo D src (compBody own tg (cndA Ca cs) (ev Ca e) σ) (y :: ys) h = ((compBody own tg (cndA Ca cs) (ev Ca e) σ y h).bind fun r h1 => match r with
          | none => compGo D src (compBody own tg (cndA Ca cs) (ev Ca e) σ) ys h1
          | some v => match h1[D]? with
            | some (.lst acc) => if acc.length < BIG then compGo D src (compBody own tg (cndA Ca cs) (ev Ca e) σ) ys (h1.set D (.lst (acc ++ [v]))) else .bad
            | _ => .bad) := by
        rw [compGo_cons', if_pos Sp.live]
      rcases R with ⟨rfl, rfl⟩ | ⟨xv, v, rfl, rfl, rv⟩
      · rw [e0, q1]
        exact ih zs B1 S2 Y1 Sp1 hD1 no1 ns hd1 rd1 eb
      · have eb : (if acT.length < BIG then compGoB (compBodyB own tg (cndB C cs) (bev C e)) zs (acT ++ [xv.t]) (f && xv.fr) s1 else .bad) = .ok x bs' := eb
        split at eb
        · rename_i hz
          have hlt := lt_of_get hd1
          have same : ∀ x o', x ∉ O1 → h1[x]? = some o' → (h1.set D (.lst (acc ++ [v])))[x]? = some o' := fun x o' hx e => by
            rw [List.getElem?_set_ne (fun z => hx (by rw [← z]; exact hD1))]; exact e
          have w1 : ∀ {b c : Bool} {vs : List Va} {ts : List Tr}, (c = true → b = true) → Rds (Pd O1 n0 b) h1 vs ts → Rds (Pd O1 n0 c) (h1.set D (.lst (acc ++ [v]))) vs ts := fun w r => r.imp fun l m o p q => ⟨⟨p.1, fun z => p.2 (w z)⟩, same l o p.1 q⟩
          have rd2 : Rds (Pd O1 n0 (f && xv.fr)) (h1.set D (.lst (acc ++ [v]))) (acc ++ [v]) (acT ++ [xv.t]) :=
            (w1 (fun z => by rw [Bool.and_eq_true] at z; exact z.1) rd1).app (w1 (fun z => by rw [Bool.and_eq_true] at z; exact z.2) (.cons rv .nil : Rds (Pd O1 n0 xv.fr) h1 [v] [xv.t]))
          have Y2 : YsP n0 (h1.set D (.lst (acc ++ [v]))) O1 ys zs := by
            have go : ∀ {ys : List Ya} {zs : List Yb}, YsP n0 h1 O1 ys zs → YsP n0 (h1.set D (.lst (acc ++ [v]))) O1 ys zs := by
              intro ys zs Y
              induction Y with
              | nil => exact .nil
              | cons a _ ih =>
                refine .cons ?_ ih
                rename_i y z _ _ _
                have im : ∀ {b : Bool} {v' : Va} {t : Tr}, Rd' (Pd O1 n0 b) h1 v' t → Rd' (Pd O1 n0 b) (h1.set D (.lst (acc ++ [v]))) v' t := fun r => r.imp fun l m o p q => ⟨p, same l o p.1 q⟩
                cases y <;> cases z <;> first
                  | exact a.elim
                  | exact ⟨a.1, im a.2⟩
                  | exact ⟨⟨a.1.1, im a.1.2⟩, a.2.1, im a.2.2⟩
            exact go Y1
          have Sp2 : SrcP (h1.set D (.lst (acc ++ [v]))) ow1 sr (fun j => nmEs j cs && nmE j e) src := fun p hp => by
            obtain ⟨a, b, c⟩ := Sp1 p hp
            exact ⟨by rw [List.getElem?_set_ne (fun z => hs p hp z.symm)]; exact a, b, c⟩
          rw [e0, q1]
          show ∃ h' O' ow', (match h1[D]? with
            | some (.lst acc) => if acc.length < BIG then compGo D src (compBody own tg (cndA Ca cs) (ev Ca e) σ) ys (h1.set D (.lst (acc ++ [v]))) else .bad
            | _ => .bad) = _ ∧ _
          simp only [hd1]
          rw [if_pos (by rw [rd1.len]; exact hz)]
          exact ih zs (B1.setD hD1 no1 ns) (S2.setNew hD0) Y2 Sp2 hD1 no1 ns (by rw [List.getElem?_set_self hlt]) rd2 eb
        · cases eb
theorem comp_B {it : It} {own : List Nat} {tg : Tg} {cs : Es} {e : E} (hi : EvIOk Ca C it) (hc : CndOk Ca C cs) (he : EvOk Ca C e) : EvOk Ca C (.comp it own tg cs e) := by
  intro n0 h σ bs bs' O ow sr y B eb
  have eb : ((bevIt C (fun i => nmEs i cs && nmE i e) it bs).bind fun ys s1 => compGoB (compBodyB own tg (cndB C cs) (bev C e)) ys [] true s1) = .ok y bs' := by
    cases cs <;> exact eb
  obtain ⟨zs, s1, e1, eb⟩ := rb_bind eb
  obtain ⟨h1, w, O1, ow1, q1, B1, S1, Y1, Sp1⟩ := hi B e1
  have ea : ev Ca (.comp it own tg cs e) σ h = compGo h1.length w.src (compBody own tg (cndA Ca cs) (ev Ca e) σ) w.ys (h1 ++ [.lst []]) := by
    have e0 : ev Ca (.comp it own tg cs e) σ h = (evIt Ca it σ h).bind fun w h1 => compGo h1.length w.src (compBody own tg (cndA Ca cs) (ev Ca e) σ) w.ys (h1 ++ [.lst []]) := by
      cases cs <;> rfl
    rw [e0, q1]
    rfl
  have hlt : h1.length < (h1 ++ [Ob.lst []]).length := by rw [List.length_append]; exact Nat.lt_succ_self _
  have B2 := B1.more (l := h1.length) (Nat.le_refl _) [.lst []] hlt
  have hno : h1.length ∉ O1 := fun z => by have := B1.lt _ z; omega
  have st : ∀ nm : Nat → Bool, Stp h1 O1 ow1 sr (h1 ++ [.lst []]) (h1.length :: O1) ow1 sr nm := fun nm => .grow _ (fun l z => List.mem_cons_of_mem _ z) fun l z => by
    rcases List.mem_cons.mp z with rfl | z
    · exact .inr (Nat.le_refl _)
    · exact .inl z
  have Y2 : YsP n0 (h1 ++ [.lst []]) (h1.length :: O1) w.ys zs := Y1.step B1 (st fun _ => true)
  have Sp2 : SrcP (h1 ++ [.lst []]) ow1 sr (fun j => nmEs j cs && nmE j e) w.src := Sp1.step (st fun j => nmEs j cs && nmE j e) fun j hj => hj
  obtain ⟨h2, O2, ow2, c1, c2, c3, c4⟩ := comp_loop (D := h1.length) (h0 := h1) (O0 := O1) (ow0 := ow1) hc he B1.lt (Nat.le_refl _) B1.n0 (fun p hp z => by have := lt_of_get (Sp1 p hp).1; omega) w.ys zs B2 (st _) Y2 Sp2 List.mem_cons_self (fun z => hno (B1.inO _ z).1) (fun z => hno (B1.sO _ z)) (by simp) .nil eb
  rw [ea]
  refine ⟨h2, _, O2, ow2, c1, c2, (Stp.trans B.lt S1 c3).nm fun j hj => ?_, c4.le S1.len⟩
  exact hj
end
end HA

namespace HA
open PySem PySem.Spec PyProof.Rows L2
theorem mthBad {Ca : Cf} {C : Cb} {m : Mt} {o : E} {as : Es} (hm : isMutM m = true) (ho : ∀ i, o ≠ .var i) : EvOk Ca C (.mth m o as) := by
  intro n0 h σ bs bs' O ow sr y B e
  unfold bev at e
  rw [if_pos hm] at e
  split at e
  · exact absurd rfl (ho _)
  · cases e
mutual
theorem ev_B {Ca : Cf} {C : Cb} (hn : Ca.ns = C.ns) (hc : CallsOk Ca C) : ∀ e : E, EvOk Ca C e
  | .cst v => cst_B
  | .var i => var_ok
  | .bin o a b => bin_B (ev_B hn hc a) (ev_B hn hc b)
  | .neg a => neg_B (ev_B hn hc a)
  | .not a => not_B (ev_B hn hc a)
  | .and a b => and_B (ev_B hn hc a) (ev_B hn hc b)
  | .or a b => or_B (ev_B hn hc a) (ev_B hn hc b)
  | .cmp c a b => cmp_B (ev_B hn hc a) (ev_B hn hc b)
  | .chn c d a b e => chn_B (ev_B hn hc a) (ev_B hn hc b) (ev_B hn hc e)
  | .isN ng a => isN_B (ev_B hn hc a)
  | .ife t a b => ife_B (ev_B hn hc t) (ev_B hn hc a) (ev_B hn hc b)
  | .inst a ts => inst_B (ev_B hn hc a)
  | .call g as => call_B hc (evA_B hn hc as)
  | .callk g as ks pm => callk_B hc (evA_B hn hc as) (evA_B hn hc ks)
  | .bi b as => bi_B hn (evT_B hn hc as)
  | .mth m o as => if hm : isMutM m = true then match o with
      | .var i => mthM_B hm (evs_B hn hc as)
      | .cst _ | .bin _ _ _ | .neg _ | .not _ | .and _ _ | .or _ _ | .cmp _ _ _ | .chn _ _ _ _ _ | .isN _ _ | .ife _ _ _ | .inst _ _ | .call _ _ | .callk _ _ _ _ | .bi _ _ | .mth _ _ _ | .idx _ _ | .slc _ _ _ | .rev _ | .lst _ | .tup _ | .dnew | .items _ | .lrng _ | .comp _ _ _ _ _ => mthBad hm fun i z => by cases z
    else mthL_B (by simpa using hm) (ev_B hn hc o) (evs_B hn hc as) (evT_B hn hc as)
  | .idx a i => idx_B (ev_B hn hc a) (ev_B hn hc i)
  | .slc a lo hi => slc_B (ev_B hn hc a) (evT_B hn hc lo) (evT_B hn hc hi)
  | .rev a => rev_B (ev_B hn hc a)
  | .lst as => lst_B (evs_B hn hc as)
  | .tup as => tup_B (evs_B hn hc as)
  | .dnew => dnew_B
  | .items a => items_B (ev_B hn hc a)
  | .lrng as => lrng_B (evT_B hn hc as)
  | .comp it own tg cs e => comp_B (evIt_B hn hc it) (cnd_B hn hc cs) (ev_B hn hc e)
theorem evs_B {Ca : Cf} {C : Cb} (hn : Ca.ns = C.ns) (hc : CallsOk Ca C) : ∀ e : Es, EvsOk Ca C e
  | .nil => evs_nil
  | .cons e r => evs_cons (ev_B hn hc e) (evs_B hn hc r)
  | .star e r => evs_star (ev_B hn hc e) (evs_B hn hc r)
theorem evT_B {Ca : Cf} {C : Cb} (hn : Ca.ns = C.ns) (hc : CallsOk Ca C) : ∀ e : Es, EvTOk Ca C e
  | .nil => evT_nil
  | .cons e r => evT_cons (ev_B hn hc e) (evT_B hn hc r)
  | .star e r => evT_star
theorem evA_B {Ca : Cf} {C : Cb} (hn : Ca.ns = C.ns) (hc : CallsOk Ca C) : ∀ e : Es, EvAOk Ca C e
  | .nil => evA_nil
  | .cons e r => evA_cons (ev_B hn hc e) (evA_B hn hc r)
  | .star e r => evA_star
theorem cnd_B {Ca : Cf} {C : Cb} (hn : Ca.ns = C.ns) (hc : CallsOk Ca C) : ∀ e : Es, CndOk Ca C e
  | .nil => cnd_nil
  | .cons e r => cnd_cons (ev_B hn hc e)
  | .star e r => cnd_star
theorem evIt_B {Ca : Cf} {C : Cb} (hn : Ca.ns = C.ns) (hc : CallsOk Ca C) : ∀ e : It, EvIOk Ca C e
  | .val e => val_I (ev_B hn hc e)
  | .rng as => rng_I (evT_B hn hc as)
  | .zip a b => zip_I (ev_B hn hc a) (ev_B hn hc b)
  | .enum a => enum_I (ev_B hn hc a)
end
end HA

namespace HA
open PySem PySem.Spec PyProof.Rows L2
section
variable {n0 : Nat} {h : Hh} {σ : Sl} {bs bs' : BS} {O : List Nat} {ow : Ow} {sr : So} {Ca : Cf} {C : Cb}

/-! ### statements -/
def RetP (n0 : Nat) (h : Hh) (O : List Nat) (v : Va) (x : Lv) : Prop := if x.uq = true then mutT x.t = true ∧ ∃ l, v = .ref l ∧ n0 ≤ l ∧ l < h.length ∧ l ∈ O ∧ RTop (Pd O n0 x.fr) h v x.t else Rd' (Pd O n0 x.fr) h v x.t
def Aft (C : Cb) (n0 : Nat) (h : Hh) (O : List Nat) (ow : Ow) (sr : So) (nm : Nat → Bool) (bs' : BS) (σ' : Sl) (h' : Hh) : Prop := ∃ O' ow' sr', BR n0 h' σ' bs' O' ow' sr' ∧ Stp h O ow sr h' O' ow' sr' nm ∧ (C.sg = none → sr' = sr)
def ResX (C : Cb) (n0 : Nat) (h : Hh) (O : List Nat) (ow : Ow) (sr : So) (nm : Nat → Bool) (ra : RX) : BX → Prop
  | .nx bs' => ∃ σ' h', ra = .nx σ' h' ∧ Aft C n0 h O ow sr nm bs' σ' h'
  | .bk bs' => ∃ σ' h', ra = .bk σ' h' ∧ Aft C n0 h O ow sr nm bs' σ' h'
  | .ct bs' => ∃ σ' h', ra = .ct σ' h' ∧ Aft C n0 h O ow sr nm bs' σ' h'
  | .rt x st' => ∃ v h' O' ow' sr', ra = .rt v h' ∧ StrOk h' sr' st' ∧ Stp h O ow sr h' O' ow' sr' nm ∧ (C.sg = none → sr' = sr) ∧ RetP n0 h' O' v x
  | .bad => True
def StOk (Ca : Cf) (C : Cb) (nm : Nat → Bool) (fa : Sl → Hh → RX) (fb : BS → BX) : Prop := ∀ {n0 : Nat} {h : Hh} {σ : Sl} {bs : BS} {O : List Nat} {ow : Ow} {sr : So}, BR n0 h σ bs O ow sr → ResX C n0 h O ow sr nm (fa σ h) (fb bs)
theorem ResX.nm {nm nm' : Nat → Bool} {ra : RX} {rb : BX} (r : ResX C n0 h O ow sr nm ra rb) (w : ∀ j, nm' j = true → nm j = true) : ResX C n0 h O ow sr nm' ra rb := by
  cases rb with
  | nx s => obtain ⟨σ', h', e, O', ow', sr', b, s, k⟩ := r; exact ⟨σ', h', e, O', ow', sr', b, s.nm w, k⟩
  | bk s => obtain ⟨σ', h', e, O', ow', sr', b, s, k⟩ := r; exact ⟨σ', h', e, O', ow', sr', b, s.nm w, k⟩
  | ct s => obtain ⟨σ', h', e, O', ow', sr', b, s, k⟩ := r; exact ⟨σ', h', e, O', ow', sr', b, s.nm w, k⟩
  | rt x st => obtain ⟨v, h', O', ow', sr', e, so, s, k, q⟩ := r; exact ⟨v, h', O', ow', sr', e, so, s.nm w, k, q⟩
  | bad => trivial
/-- behind a first stretch -/
theorem ResX.after {h1 : Hh} {O1 : List Nat} {ow1 : Ow} {sr1 : So} {nm nm1 : Nat → Bool} {ra : RX} {rb : BX} (hO : ∀ l, l ∈ O → l < h.length) (s : Stp h O ow sr h1 O1 ow1 sr1 nm) (k : C.sg = none → sr1 = sr) (r : ResX C n0 h1 O1 ow1 sr1 nm1 ra rb) : ResX C n0 h O ow sr (fun j => nm j && nm1 j) ra rb := by
  cases rb with
  | nx b => obtain ⟨σ', h', e, O', ow', sr', b, s2, k2⟩ := r; exact ⟨σ', h', e, O', ow', sr', b, .trans hO s s2, fun z => (k2 z).trans (k z)⟩
  | bk b => obtain ⟨σ', h', e, O', ow', sr', b, s2, k2⟩ := r; exact ⟨σ', h', e, O', ow', sr', b, .trans hO s s2, fun z => (k2 z).trans (k z)⟩
  | ct b => obtain ⟨σ', h', e, O', ow', sr', b, s2, k2⟩ := r; exact ⟨σ', h', e, O', ow', sr', b, .trans hO s s2, fun z => (k2 z).trans (k z)⟩
  | rt x st => obtain ⟨v, h', O', ow', sr', e, so, s2, k2, q⟩ := r; exact ⟨v, h', O', ow', sr', e, so, .trans hO s s2, fun z => (k2 z).trans (k z), q⟩
  | bad => trivial
/-- an expression's part of a statement -/
theorem st_ev {α : Type} {r : RB α} {kB : α → BS → BX} {ra : RX} {nm : Nat → Bool} (hk : ∀ x s, r = .ok x s → ResX C n0 h O ow sr nm ra (kB x s)) : ResX C n0 h O ow sr nm ra (r.st kB) := by
  cases r with
  | ok x s => exact hk x s rfl
  | bad => exact trivial
/-- a value is stored in a slot -/
theorem put_lv {n1 i : Nat} {v : Va} {x : Lv} (B : BR n0 h σ bs O ow sr) (hn : n0 ≤ n1) (q : LvP n0 n1 h O ow sr v x) :
    ∃ ow', BR n0 h (σ.set i (some v)) ⟨bs.sl.set i (.val x.t x.uq x.fr), bs.st⟩ O ow' sr ∧ ∀ (j l : Nat), ow'[j]? = some (some l) → ow[j]? = some (some l) ∨ n1 ≤ l := by
  unfold LvP at q
  split at q
  · rename_i hu
    obtain ⟨m, l, rfl, a, b, c, d, r⟩ := q
    refine ⟨ow.set i (some l), B.put (fun hi => ⟨.ref l, rfl, by rw [hu, if_pos rfl]; exact ⟨m, l, by rw [List.getElem?_set_self (by rw [B.ol]; exact hi)], rfl, Nat.le_trans hn a, r⟩⟩) (fun l' z => by cases z; exact ⟨b, d, fun j hj => c ⟨j, hj⟩⟩), fun j l' z => ?_⟩
    rw [List.getElem?_set] at z
    split at z
    · split at z
      · cases z; exact .inr a
      · cases z
    · exact .inl z
  · rename_i hu
    rw [Bool.not_eq_true] at hu
    refine ⟨ow.set i none, put_old B hu q, fun j l' z => ?_⟩
    rw [List.getElem?_set] at z
    split at z
    · split at z <;> cases z
    · exact .inl z
theorem asg_B {tg : Tg} {e : E} (he : EvOk Ca C e) : StOk Ca C (fun j => nmE j e) (ex Ca (.asg tg e)) (fun bs => (bev C e bs).st fun v s1 => nxB (tgYB tg (.one v) s1.sl) s1.st) := by
  intro n0 h σ bs O ow sr B
  refine st_ev fun x s1 e1 => ?_
  cases et : tgYB tg (.one x) s1.sl with
  | none => exact trivial
  | some sl' =>
    have plain : x.uq = false ∨ (∀ i, tg ≠ .nm i) → ResX C n0 h O ow sr (fun j => nmE j e) (ex Ca (.asg tg e) σ h) (.nx ⟨sl', s1.st⟩) := fun hx => by
      obtain ⟨h1, v, O1, ow1, q1, B1, S1, p1⟩ := (he B e1).forget B
      have et' : tgYB tg (.one ⟨x.t, x.fr, false⟩) s1.sl = some sl' := by
        rcases hx with hx | hx
        · rw [show (⟨x.t, x.fr, false⟩ : Lv) = x by cases x; cases hx; rfl]; exact et
        · cases tg with
          | nm i => exact absurd rfl (hx i)
          | te => exact et
          | tp a r => exact et
      obtain ⟨σ2, ow2, q2, B2, m2, k2, n2⟩ := tgY_B (y := .one v) (z := .one ⟨x.t, x.fr, false⟩) B1 ⟨rfl, p1⟩ et'
      refine ⟨σ2, h1, ?_, O1, ow2, sr, B2, ⟨S1.len, S1.keep, S1.oin, S1.oout, fun j l z => S1.own j l (m2 j l z), S1.str⟩, fun _ => rfl⟩
      show ofE' σ (ev Ca e σ h) _ = _
      rw [q1]
      show nxO (tgY h1 tg (.one v) σ) h1 = _
      rw [q2]
      rfl
    cases tg with
    | nm i =>
      obtain ⟨h1, v, O1, ow1, q1, B1, S1, p1⟩ := he B e1
      cases et
      obtain ⟨ow2, B2, m2⟩ := put_lv (i := i) B1 B.n0 p1
      refine ⟨σ.set i (some v), h1, ?_, O1, ow2, sr, B2, ⟨S1.len, S1.keep, S1.oin, S1.oout, fun j l z => ?_, S1.str⟩, fun _ => rfl⟩
      · show ofE' σ (ev Ca e σ h) _ = _
        rw [q1]
        rfl
      · rcases m2 j l z with z | z
        · exact S1.own j l z
        · exact .inr z
    | te => exact plain (.inr fun i z => by cases z)
    | tp a r => exact plain (.inr fun i z => by cases z)
/-- several names at once -/
theorem setAll_B : ∀ {is : List Nat} {vs : List Va} {xs : List Lv} {ls : List Nat} {n1 : Nat} {σ : Sl} {bs : BS} {ow : Ow} {sl' : List Sb}, BR n0 h σ bs O ow sr → n0 ≤ n1 → LvsP n0 n1 h O ow sr vs xs ls → setAllB is xs bs.sl = some sl' →
    ∃ σ' ow', setAll is vs σ = some σ' ∧ BR n0 h σ' ⟨sl', bs.st⟩ O ow' sr ∧ ∀ (j l : Nat), ow'[j]? = some (some l) → ow[j]? = some (some l) ∨ n1 ≤ l := by
  intro is
  induction is with
  | nil =>
    intro vs xs ls n1 σ bs ow sl' B hn p e
    cases p with
    | nil => cases e; exact ⟨σ, ow, rfl, B, fun j l z => .inl z⟩
    | old u r t => cases e
    | new u m hl hO no ns nl r t => cases e
  | cons i is ih =>
    intro vs xs ls n1 σ bs ow sl' B hn p e
    cases p with
    | nil => cases e
    | @old v x vs xs _ u r t =>
      have B1 := put_old (i := i) B u r
      have t1 : LvsP n0 n1 h O (ow.set i none) sr vs xs ls := by
        have : ∀ {vs : List Va} {xs : List Lv} {ls : List Nat}, LvsP n0 n1 h O ow sr vs xs ls → LvsP n0 n1 h O (ow.set i none) sr vs xs ls := by
          intro vs xs ls t
          induction t with
          | nil => exact .nil
          | old u r _ ih => exact .old u r ih
          | new u m hl hO no ns nl r _ ih =>
            refine .new u m hl hO (fun ⟨j, z⟩ => no ⟨j, ?_⟩) ns nl r ih
            rw [List.getElem?_set] at z
            split at z
            · split at z <;> cases z
            · exact z
        exact this t
      obtain ⟨σ2, ow2, q2, B2, m2⟩ := ih B1 hn t1 e
      refine ⟨σ2, ow2, q2, B2, fun j l z => ?_⟩
      rcases m2 j l z with z | z
      · rw [List.getElem?_set] at z
        split at z
        · split at z <;> cases z
        · exact .inl z
      · exact .inr z
    | @new l0 x vs xs ls0 u m hl hO no ns nl r t =>
      have B1 : BR n0 h (σ.set i (some (.ref l0))) ⟨bs.sl.set i (.val x.t x.uq x.fr), bs.st⟩ O (ow.set i (some l0)) sr :=
        B.put (fun hi => ⟨.ref l0, rfl, by rw [u, if_pos rfl]; exact ⟨m, l0, by rw [List.getElem?_set_self (by rw [B.ol]; exact hi)], rfl, Nat.le_trans hn hl, r⟩⟩) (fun l' z => by cases z; exact ⟨hO, ns, fun j hj => no ⟨j, hj⟩⟩)
      have t1 : LvsP n0 n1 h O (ow.set i (some l0)) sr vs xs ls0 := by
        have : ∀ {vs : List Va} {xs : List Lv} {ls : List Nat}, l0 ∉ ls → LvsP n0 n1 h O ow sr vs xs ls → LvsP n0 n1 h O (ow.set i (some l0)) sr vs xs ls := by
          intro vs xs ls hnl t
          induction t with
          | nil => exact .nil
          | old u r _ ih => exact .old u r (ih hnl)
          | new u m hl hO no ns nl r _ ih =>
            refine .new u m hl hO (fun ⟨j, z⟩ => ?_) ns nl r (ih fun w => hnl (List.mem_cons_of_mem _ w))
            rw [List.getElem?_set] at z
            split at z
            · split at z
              · cases z; exact hnl List.mem_cons_self
              · cases z
            · exact no ⟨j, z⟩
        exact this nl t
      obtain ⟨σ2, ow2, q2, B2, m2⟩ := ih B1 hn t1 e
      refine ⟨σ2, ow2, q2, B2, fun j l z => ?_⟩
      rcases m2 j l z with z | z
      · rw [List.getElem?_set] at z
        split at z
        · split at z
          · cases z; exact .inr hl
          · cases z
        · exact .inl z
      · exact .inr z
theorem par_B {is : List Nat} {es : Es} (he : EvsOk Ca C es) : StOk Ca C (fun j => nmEs j es) (ex Ca (.par is es)) (fun bs => (bevs C es bs).st fun vs s1 => nxB (setAllB is vs s1.sl) s1.st) := by
  intro n0 h σ bs O ow sr B
  refine st_ev fun xs s1 e1 => ?_
  obtain ⟨h1, vs, ls, O1, ow1, q1, B1, S1, p1⟩ := he B e1
  cases et : setAllB is xs s1.sl with
  | none => exact trivial
  | some sl' =>
    obtain ⟨σ2, ow2, q2, B2, m2⟩ := setAll_B B1 B.n0 p1 et
    refine ⟨σ2, h1, ?_, O1, ow2, sr, B2, ⟨S1.len, S1.keep, S1.oin, S1.oout, fun j l z => ?_, S1.str⟩, fun _ => rfl⟩
    · show ofE' σ (evs Ca es σ h) _ = _
      rw [q1]
      show nxO (setAll is vs σ) h1 = _
      rw [q2]
      rfl
    · rcases m2 j l z with z | z
      · exact S1.own j l z
      · exact .inr z
theorem exp_B {e : E} (he : EvOk Ca C e) : StOk Ca C (fun j => nmE j e) (ex Ca (.exp e)) (fun bs => (bev C e bs).st fun _ s1 => .nx s1) := by
  intro n0 h σ bs O ow sr B
  refine st_ev fun x s1 e1 => ?_
  obtain ⟨h1, v, O1, ow1, q1, B1, S1, p1⟩ := (he B e1)
  refine ⟨σ, h1, ?_, O1, ow1, sr, B1, S1, fun _ => rfl⟩
  show ofE' σ (ev Ca e σ h) _ = _
  rw [q1]
  rfl
theorem ret_B {e : E} (he : EvOk Ca C e) : StOk Ca C (fun j => nmE j e) (ex Ca (.ret e)) (fun bs => (bev C e bs).st fun v s1 => .rt v s1.st) := by
  intro n0 h σ bs O ow sr B
  refine st_ev fun x s1 e1 => ?_
  obtain ⟨h1, v, O1, ow1, q1, B1, S1, p1⟩ := (he B e1)
  refine ⟨v, h1, O1, ow1, sr, ?_, B1.str, S1, fun _ => rfl, ?_⟩
  · show ofE' σ (ev Ca e σ h) _ = _
    rw [q1]
    rfl
  · unfold LvP at p1
    unfold RetP
    split at p1
    · rename_i hu
      rw [if_pos hu]
      obtain ⟨m, l, rfl, a, b, c, d, r⟩ := p1
      exact ⟨m, l, rfl, Nat.le_trans B.n0 a, B1.lt l b, b, r⟩
    · rename_i hu
      rw [if_neg hu]
      exact p1
theorem retV_B {i : Nat} : StOk Ca C (fun _ => true) (ex Ca (.ret (.var i))) (fun bs => match bs.sl[i]? with
      | some (.val t own fr) => .rt ⟨t, fr || imm t, own⟩ bs.st
      | _ => .bad) := by
  intro n0 h σ bs O ow sr B
  dsimp only
  split
  · rename_i t own fr es
    obtain ⟨v, e1, q⟩ := B.slots i _ es
    refine ⟨v, h, O, ow, sr, ?_, B.str, .refl, fun _ => rfl, ?_⟩
    · show ofE' σ (ev Ca (.var i) σ h) _ = _
      have e0 : ev Ca (.var i) σ h = .ok v h := by unfold ev; rw [e1]
      rw [e0]
      rfl
    · unfold RetP
      split at q
      · rename_i ho
        rw [if_pos ho]
        obtain ⟨m, l, a, rfl, c, d⟩ := q
        have : imm t = false := by cases t <;> first | rfl | cases m
        refine ⟨m, l, rfl, c, B.lt l (B.inO l ⟨i, a⟩).1, (B.inO l ⟨i, a⟩).1, ?_⟩
        show RTop (Pd O n0 (fr || imm t)) h (.ref l) t
        rw [this, Bool.or_false]
        exact d
      · rename_i ho
        rw [if_neg ho]
        exact q.old
  · exact trivial
end
end HA

namespace HA
open PySem PySem.Spec PyProof.Rows L2
section
variable {n0 : Nat} {h : Hh} {σ : Sl} {bs bs' : BS} {O : List Nat} {ow : Ow} {sr : So} {Ca : Cf} {C : Cb}

/-! ### x[i] = v -/
theorem putK_ok {κ : Type} [DecidableEq κ] {P : PP} {k : κ} {v : Va} {x : Tr} {kvs : List (κ × Va)} {kts : List (κ × Tr)} (e : kvs.map (·.1) = kts.map (·.1)) (r : Rds P h (kvs.map (·.2)) (kts.map (·.2))) (rv : Rd' P h v x) :
    (putL kvs k v).map (·.1) = (putT' kts k x).map (·.1) ∧ Rds P h ((putL kvs k v).map (·.2)) ((putT' kts k x).map (·.2)) := putT_rel rv e r
theorem set_ok {P Q R S : PP} {l : Nat} {i v : Va} {t u x t' : Tr} (hP : ∀ l m, P l m → R l m) (hQ : ∀ l m, Q l m → R l m) (r : RTop P h (.ref l) t) (ri : RTop S h i u) (rv : Rd' Q h v x) (e : setT t u x = some t') :
    ∃ o', setV (.ref l) i v h = some (h.set l o') ∧ mutT t' = true ∧ ∀ h' : Hh, (∀ (l : Nat) (m : Bool) (o : Ob), R l m → h[l]? = some o → h'[l]? = some o) → h'[l]? = some o' → RTop R h' (.ref l) t' := by
  have rv' : Rd' R h v x := rv.wk hQ
  unfold setT at e
  split at e
  · obtain ⟨l', xs, e0, q, r⟩ := r
    cases e0
    split at e
    · cases ri
      split at e
      · rename_i j hj
        cases e
        refine ⟨.lst (xs.set j v), ?_, rfl, fun h' f e' => ⟨l, _, rfl, e', ((r.wk hP).set rv' j).imp fun l m o p q => ⟨p, f l m o p q⟩⟩⟩
        unfold setV
        simp only [q, r.len, hj]
      · cases e
    · cases e
  · obtain ⟨l', kvs, e0, q, e1, r⟩ := r
    cases e0
    have hk := keyT_eq ri
    have hlen := keysLen e1
    split at e
    · rename_i hz
      split at e
      · rename_i k ek
        cases e
        obtain ⟨p1, p2⟩ := putK_ok (k := k) e1 (r.wk hP) rv'
        refine ⟨.dK (putL kvs k v), ?_, rfl, fun h' f e' => ⟨l, _, rfl, e', p1, p2.imp fun l m o p q => ⟨p, f l m o p q⟩⟩⟩
        unfold setV
        simp only [q]
        unfold dPut
        simp only [q]
        rw [if_pos (by rw [hlen]; exact hz)]
        simp only [hk, ek]
      · rename_i ek
        split at e
        · obtain ⟨m, ys, rfl, q2, r2⟩ := ri
          split at e
          · rename_i ks eks
            cases e
            have hnil : kvs = [] := by
              have : kvs.length = 0 := hlen
              exact List.eq_nil_of_length_eq_zero this
            subst hnil
            refine ⟨.dT [(ks, v)], ?_, rfl, fun h' f e' => ⟨l, _, rfl, e', rfl, .cons (rv'.imp fun l m o p q => ⟨p, f l m o p q⟩) .nil⟩⟩
            unfold setV
            simp only [q]
            unfold dPut
            simp only [q]
            rw [if_pos (by rw [hlen]; exact hz)]
            simp only [hk, ek, q2, keysT_eq r2, eks]
          · cases e
        · cases e
    · cases e
  · obtain ⟨l', kvs, e0, q, e1, r⟩ := r
    cases e0
    have hlen := keysLen e1
    split at e
    · rename_i hz
      split at e
      · obtain ⟨m, ys, rfl, q2, r2⟩ := ri
        split at e
        · rename_i ks eks
          cases e
          obtain ⟨p1, p2⟩ := putK_ok (k := ks) e1 (r.wk hP) rv'
          refine ⟨.dT (putL kvs ks v), ?_, rfl, fun h' f e' => ⟨l, _, rfl, e', p1, p2.imp fun l m o p q => ⟨p, f l m o p q⟩⟩⟩
          unfold setV
          simp only [q]
          unfold dPut
          simp only [q]
          rw [if_pos (by rw [hlen]; exact hz)]
          simp only [q2, keysT_eq r2, eks]
        · cases e
      · cases e
    · cases e
  · cases e
/-- the store, then more -/
theorem store_Z {Z : RX → BX → Prop} {o i : E} {x : Lv} {v : Va} {kA : Sl → Hh → RX} {kB : BS → BX} (hz : ∀ ra, Z ra .bad) (hi : EvOk Ca C i) (B : BR n0 h σ bs O ow sr) (rv : Rd' (Pd O n0 x.fr) h v x.t)
    (hk : ∀ {h1 : Hh} {O1 : List Nat} {ow1 : Ow} {s1 : BS}, BR n0 h1 σ s1 O1 ow1 sr → Stp h O ow sr h1 O1 ow1 sr (fun j => !isVar j o && (nmE j o && nmE j i)) → Z (kA σ h1) (kB s1)) :
    Z (ofE' σ (ev Ca o σ h) fun ov h1 => ofE' σ (ev Ca i σ h1) fun iv h2 => match setV ov iv v h2 with
      | some h3 => kA σ h3
      | none => .bad) (storeB (fun e => preT e (bev C e)) o i x bs kB) := by
  have st : ∀ {α : Type} {r : RB α} {k : α → BS → BX} {ra : RX}, (∀ x s, r = .ok x s → Z ra (k x s)) → Z ra (r.st k) := fun {α r k ra} hk => by
    cases r with
    | ok x s => exact hk x s rfl
    | bad => exact hz _
  unfold storeB
  split
  · rename_i j
    refine st fun y s2 e2 => ?_
    split
    · rename_i t fr es
      split
      · rename_i u f ef
        split
        · rename_i t' et
          obtain ⟨h1, iv, O1, ow1, q1, B1, S1, p1⟩ := pre_ok hi B e2
          obtain ⟨vj, ej, qj⟩ := B1.slots j _ es
          rw [if_pos rfl] at qj
          obtain ⟨m, l, a, rfl, c, d⟩ := qj
          have rv1 : Rd' (Pd O1 n0 x.fr) h1 v x.t := Rd'.step B S1 rv
          obtain ⟨o', es', mt, top⟩ := set_ok (R := Pd O1 n0 (fr && x.fr)) (fun l m p => ⟨p.1, fun z => p.2 (by rw [Bool.and_eq_true] at z; exact z.1)⟩) (fun l m p => ⟨p.1, fun z => p.2 (by rw [Bool.and_eq_true] at z; exact z.2)⟩) d (p1.fin B1 ef) rv1 et
          have hlO := (B1.inO l ⟨j, a⟩).1
          have hlt := B1.lt l hlO
          obtain ⟨B2, S2⟩ := B1.mut (o' := o') (t' := t') (fr' := fr && x.fr) es a mt (top _ (fun x m o p q => by
            rw [List.getElem?_set_ne (fun z => p.1 (by rw [← z]; exact hlO))]; exact q) (List.getElem?_set_self hlt))
          have S3 := Stp.trans B.lt S1 (S2 (fun k => !isVar k (.var j)) (by simp [isVar]))
          have ea : (ofE' σ (ev Ca (.var j) σ h) fun ov h1 => ofE' σ (ev Ca i σ h1) fun iv h2 => match setV ov iv v h2 with
            | some h3 => kA σ h3
            | none => .bad) = kA σ (h1.set l o') := by
            have e0 : ev Ca (.var j) σ h = .ok (.ref l) h := by unfold ev; rw [ej]
            rw [e0]
            show ofE' σ (ev Ca i σ h) _ = _
            rw [q1]
            show (match setV (.ref l) iv v h1 with
              | some h3 => kA σ h3
              | none => .bad) = _
            rw [es']
          rw [ea]
          refine hk B2 (S3.nm fun k hk => ?_)
          have hk : (!isVar k (.var j) && (true && nmE k i)) = true := hk
          simp only [Bool.and_eq_true, Bool.true_and] at hk ⊢
          exact ⟨hk.2, hk.1⟩
        · exact hz _
      · exact hz _
    · exact hz _
  · exact hz _
theorem store_B {o i : E} {x : Lv} {v : Va} {kA : Sl → Hh → RX} {kB : BS → BX} {nm1 : Nat → Bool} (hi : EvOk Ca C i) (hk : StOk Ca C nm1 kA kB) (B : BR n0 h σ bs O ow sr) (rv : Rd' (Pd O n0 x.fr) h v x.t) :
    ResX C n0 h O ow sr (fun j => !isVar j o && (nmE j o && (nmE j i && nm1 j))) (ofE' σ (ev Ca o σ h) fun ov h1 => ofE' σ (ev Ca i σ h1) fun iv h2 => match setV ov iv v h2 with
      | some h3 => kA σ h3
      | none => .bad) (storeB (fun e => preT e (bev C e)) o i x bs kB) :=
  store_Z (Z := fun ra rb => ResX C n0 h O ow sr (fun j => !isVar j o && (nmE j o && (nmE j i && nm1 j))) ra rb) (fun _ => trivial) hi B rv fun B1 S1 => (ResX.after B.lt S1 (fun _ => rfl) (hk B1)).nm fun j hj => by
    simp only [Bool.and_eq_true] at hj ⊢
    exact ⟨⟨hj.1, hj.2.1, hj.2.2.1⟩, hj.2.2.2⟩
theorem nx_B : StOk Ca C (fun _ => true) (fun σ h => .nx σ h) (fun s => .nx s) := fun {n0 h σ bs O ow sr} B => ⟨σ, h, rfl, O, ow, sr, B, .refl, fun _ => rfl⟩
theorem set_B {o i e : E} (hi : EvOk Ca C i) (he : EvOk Ca C e) : StOk Ca C (fun j => nmS j (.set o i e)) (ex Ca (.set o i e)) (fun bs => (bev C e bs).st fun v s1 => storeB (fun e => preT e (bev C e)) o i v s1 fun s => .nx s) := by
  intro n0 h σ bs O ow sr B
  refine st_ev fun x s1 e1 => ?_
  obtain ⟨h1, v, O1, ow1, q1, B1, S1, p1⟩ := (he B e1).forget B
  have R := ResX.after B.lt S1 (fun _ => rfl) (store_B (o := o) (kA := fun σ h => .nx σ h) hi (nx_B (Ca := Ca)) B1 p1)
  have ea : ex Ca (.set o i e) σ h = (ofE' σ (ev Ca o σ h1) fun ov h1 => ofE' σ (ev Ca i σ h1) fun iv h2 => match setV ov iv v h2 with
      | some h3 => .nx σ h3
      | none => .bad) := by
    show ofE' σ (ev Ca e σ h) _ = _
    rw [q1]
    rfl
  rw [ea]
  exact R.nm fun j hj => by
    have hj : (!isVar j o && (nmE j o && (nmE j i && nmE j e))) = true := hj
    simp only [Bool.and_eq_true] at hj ⊢
    exact ⟨hj.2.2.2, hj.1, hj.2.1, hj.2.2.1, trivial⟩
theorem LvsP.reown {n1 : Nat} {ow' : Ow} {vs : List Va} {xs : List Lv} {ls : List Nat} (q : LvsP n0 n1 h O ow sr vs xs ls) (w : ∀ (j l : Nat), ow'[j]? = some (some l) → isOwn ow l ∨ l ∉ ls) : LvsP n0 n1 h O ow' sr vs xs ls := by
  induction q with
  | nil => exact .nil
  | old u r _ ih => exact .old u r (ih w)
  | new u m hl hO no ns nl r _ ih =>
    refine .new u m hl hO (fun ⟨j, z⟩ => ?_) ns nl r (ih fun j l z => ?_)
    · rcases w j _ z with w | w
      · exact no w
      · exact w List.mem_cons_self
    · rcases w j l z with w | w
      · exact .inl w
      · exact .inr fun k => w (List.mem_cons_of_mem _ k)
def atNm (j : Nat) : At → Bool
  | .tg _ => true
  | .sub o i => !isVar j o && (nmE j o && nmE j i)
theorem asgGo_B (hev : ∀ e : E, EvOk Ca C e) {h0 : Hh} {O0 : List Nat} {ow0 : Ow} {n0 n1 : Nat} {sr : So} (hO0 : ∀ l, l ∈ O0 → l < h0.length) (hn : n0 ≤ n1) (hn1 : h0.length ≤ n1) : ∀ {ts : List At} {vs : List Va} {xs : List Lv} {ls : List Nat} {h : Hh} {σ : Sl} {bs : BS} {O : List Nat} {ow : Ow} {nm0 : Nat → Bool}, BR n0 h σ bs O ow sr → LvsP n0 n1 h O ow sr vs xs ls →
    Stp h0 O0 ow0 sr h O ow sr nm0 →
    ResX C n0 h0 O0 ow0 sr (fun j => nm0 j && ts.all (atNm j)) (asgGo (ev Ca) ts vs σ h) (asgGoB (fun e => preT e (bev C e)) ts xs bs) := by
  intro ts
  induction ts with
  | nil =>
    intro vs xs ls h σ bs O ow nm0 B p S
    cases p with
    | nil => exact ⟨σ, h, rfl, O, ow, sr, B, S.nm fun j hj => by rw [Bool.and_eq_true] at hj; exact hj.1, fun _ => rfl⟩
    | old _ _ _ => exact trivial
    | new _ _ _ _ _ _ _ _ _ => exact trivial
  | cons t ts ih =>
    intro vs xs ls h σ bs O ow nm0 B p S
    cases t with
    | tg t =>
      cases p with
      | nil => exact trivial
      | @old v x vs xs _ u r tl =>
        show ResX C n0 h0 O0 ow0 sr _ _ (match tgYB t (.one x) bs.sl with
          | some σ => asgGoB _ ts xs ⟨σ, bs.st⟩
          | none => .bad)
        split
        · rename_i sl' et
          obtain ⟨σ2, ow2, q2, B2, m2, k2, n2⟩ := tgY_B (y := .one v) (z := .one x) B ⟨u, r⟩ et
          have ea : asgGo (ev Ca) (.tg t :: ts) (v :: vs) σ h = asgGo (ev Ca) ts vs σ2 h := by
            show (match tgY h t (.one v) σ with
              | some σ1 => asgGo (ev Ca) ts vs σ1 h
              | none => .bad) = _
            rw [q2]
          rw [ea]
          exact (ih B2 (tl.reown fun j l z => .inl ⟨j, m2 j l z⟩) ⟨S.len, S.keep, S.oin, S.oout, fun j l z => S.own j l (m2 j l z), S.str⟩).nm fun j hj => by
            rw [List.all_cons] at hj
            simp only [Bool.and_eq_true] at hj ⊢
            exact ⟨hj.1, hj.2.2⟩
        · exact trivial
      | @new l0 x vs xs ls0 u m hl hO no ns nl r tl =>
        cases t with
        | nm i =>
          have B1 : BR n0 h (σ.set i (some (.ref l0))) ⟨bs.sl.set i (.val x.t x.uq x.fr), bs.st⟩ O (ow.set i (some l0)) sr :=
            B.put (fun hi => ⟨.ref l0, rfl, by rw [u, if_pos rfl]; exact ⟨m, l0, by rw [List.getElem?_set_self (by rw [B.ol]; exact hi)], rfl, Nat.le_trans hn hl, r⟩⟩) (fun l' z => by cases z; exact ⟨hO, ns, fun j hj => no ⟨j, hj⟩⟩)
          have own2 : ∀ (j l : Nat), (ow.set i (some l0))[j]? = some (some l) → ow[j]? = some (some l) ∨ l = l0 := fun j l z => by
            rw [List.getElem?_set] at z
            split at z
            · split at z
              · cases z; exact .inr rfl
              · cases z
            · exact .inl z
          have R := ih B1 (tl.reown fun j l z => by
            rcases own2 j l z with z | z
            · exact .inl ⟨j, z⟩
            · exact .inr (by rw [z]; exact nl)) ⟨S.len, S.keep, S.oin, S.oout, fun j l z => by
            rcases own2 j l z with z | z
            · exact S.own j l z
            · exact .inr (by rw [z]; omega), S.str⟩
          exact R.nm fun j hj => by
            rw [List.all_cons] at hj
            simp only [Bool.and_eq_true] at hj ⊢
            exact ⟨hj.1, hj.2.2⟩
        | te =>
          have : tgYB .te (.one x) bs.sl = none := by
            show (match spreadB .te x with
              | some xs => tgB .te xs bs.sl
              | none => none) = none
            have : spreadB .te x = none := by
              show (match x.t with
                | .tup xs => some (xs.map fun y => mkOld y x.fr)
                | _ => none) = none
              cases ht : x.t <;> first | rfl | (rw [ht] at m; cases m)
            rw [this]
          show ResX C n0 h0 O0 ow0 sr _ _ (match tgYB .te (.one x) bs.sl with
            | some σ => asgGoB _ ts xs ⟨σ, bs.st⟩
            | none => .bad)
          rw [this]
          exact trivial
        | tp a b =>
          have : tgYB (.tp a b) (.one x) bs.sl = none := by
            show (match spreadB (.tp a b) x with
              | some xs => tgB (.tp a b) xs bs.sl
              | none => none) = none
            have : spreadB (.tp a b) x = none := by
              show (match x.t with
                | .tup xs => some (xs.map fun y => mkOld y x.fr)
                | _ => none) = none
              cases ht : x.t <;> first | rfl | (rw [ht] at m; cases m)
            rw [this]
          show ResX C n0 h0 O0 ow0 sr _ _ (match tgYB (.tp a b) (.one x) bs.sl with
            | some σ => asgGoB _ ts xs ⟨σ, bs.st⟩
            | none => .bad)
          rw [this]
          exact trivial
    | sub o i =>
      cases p with
      | nil => exact trivial
      | @old v x vs xs _ u r tl =>
        show ResX C n0 h0 O0 ow0 sr _ _ (if x.uq = true then .bad else storeB (fun e => preT e (bev C e)) o i x bs fun s => asgGoB (fun e => preT e (bev C e)) ts xs s)
        rw [if_neg (by rw [u]; exact Bool.false_ne_true)]
        refine store_Z (Z := fun ra rb => ResX C n0 h0 O0 ow0 sr (fun j => nm0 j && (At.sub o i :: ts).all (atNm j)) ra rb) (kA := fun σ h => asgGo (ev Ca) ts vs σ h) (fun _ => trivial) (hev i) B r fun B1 S1 => ?_
        exact (ih B1 (tl.step B S1) (Stp.trans hO0 S S1)).nm fun j hj => by
          rw [List.all_cons] at hj
          simp only [Bool.and_eq_true] at hj ⊢
          have h2 : (!isVar j o && (nmE j o && nmE j i)) = true := hj.2.1
          simp only [Bool.and_eq_true] at h2
          exact ⟨⟨hj.1, h2⟩, hj.2.2⟩
      | @new l0 x vs xs ls0 u m hl hO no ns nl r tl =>
        show ResX C n0 h0 O0 ow0 sr _ _ (if x.uq = true then .bad else storeB (fun e => preT e (bev C e)) o i x bs fun s => asgGoB (fun e => preT e (bev C e)) ts xs s)
        rw [if_pos u]
        exact trivial
theorem asgs_B (hev : ∀ e : E, EvOk Ca C e) {ts : List At} {es : Es} (he : EvsOk Ca C es) : StOk Ca C (fun j => nmS j (.asgs ts (.tup es))) (ex Ca (.asgs ts (.tup es))) (fun bs => (bevs C es bs).st fun xs s1 => if xs.length ≤ BIG ∧ xs.length = ts.length then asgGoB (fun e => preT e (bev C e)) ts xs s1 else .bad) := by
  intro n0 h σ bs O ow sr B
  refine st_ev fun xs s1 e1 => ?_
  split
  · rename_i hz
    obtain ⟨h1, vs, ls, O1, ow1, q1, B1, S1, p1⟩ := he B e1
    have S2 : Stp h O ow sr (h1 ++ [.tup vs]) O1 ow1 sr (fun j => nmEs j es) := (Stp.trans B.lt S1 (.grow (nm := fun _ => true) [.tup vs] (fun l z => z) fun l z => .inl z)).nm fun j hj => by rw [Bool.and_true]; exact hj
    have p2 := p1.step B1 (Stp.grow (O' := O1) (nm := fun _ => true) [.tup vs] (fun l z => z) fun l z => .inl z)
    have R := asgGo_B hev B.lt B.n0 (Nat.le_refl _) (ts := ts) (B1.grow [.tup vs]) p2 S2
    have ea : ex Ca (.asgs ts (.tup es)) σ h = asgGo (ev Ca) ts vs σ (h1 ++ [.tup vs]) := by
      have e0 : ev Ca (.tup es) σ h = .ok (.ref h1.length) (h1 ++ [Ob.tup vs]) := by
        show (evs Ca es σ h).bind _ = _
        rw [q1]
        show (if vs.length ≤ BIG then _ else _) = _
        rw [if_pos (by rw [p1.len]; exact hz.1)]
        rfl
      show ofE' σ (ev Ca (.tup es) σ h) _ = _
      rw [e0]
      show (match tupOf (.ref h1.length) (h1 ++ [Ob.tup vs]) with
        | some xs => if xs.length = ts.length then asgGo (ev Ca) ts xs σ (h1 ++ [Ob.tup vs]) else .bad
        | none => .bad) = _
      have e1 : tupOf (.ref h1.length) (h1 ++ [Ob.tup vs]) = some vs := by unfold tupOf; simp
      rw [e1]
      simp only []
      rw [if_pos (by rw [p1.len]; exact hz.2)]
    rw [ea]
    exact R.nm fun j hj => by
      have hj : (nmEs j es && ts.all fun t => match t with
        | .tg _ => true
        | .sub o i => !isVar j o && (nmE j o && nmE j i)) = true := hj
      have e2 : (ts.all fun t => match t with
        | .tg _ => true
        | .sub o i => !isVar j o && (nmE j o && nmE j i)) = ts.all (atNm j) := by
        congr 1
      rw [e2] at hj
      exact hj
  · exact trivial
end
end HA

namespace HA
open PySem PySem.Spec PyProof.Rows L2
section
variable {n0 : Nat} {h : Hh} {σ : Sl} {bs bs' : BS} {O : List Nat} {ow : Ow} {sr : So} {Ca : Cf} {C : Cb}

/-! ### suites, tests, loops -/
theorem Aft.after {h1 h2 : Hh} {σ2 : Sl} {O1 : List Nat} {ow1 : Ow} {sr1 : So} {nm nm1 : Nat → Bool} (hO : ∀ l, l ∈ O → l < h.length) (s : Stp h O ow sr h1 O1 ow1 sr1 nm) (k : C.sg = none → sr1 = sr) (a : Aft C n0 h1 O1 ow1 sr1 nm1 bs' σ2 h2) : Aft C n0 h O ow sr (fun j => nm j && nm1 j) bs' σ2 h2 := by
  obtain ⟨O', ow', sr', b, s2, k2⟩ := a
  exact ⟨O', ow', sr', b, .trans hO s s2, fun z => (k2 z).trans (k z)⟩
theorem seq_B {nm nm1 : Nat → Bool} {fa : Sl → Hh → RX} {fb : BS → BX} {ga : Sl → Hh → RX} {gb : BS → BX} (hf : StOk Ca C nm fa fb) (hg : StOk Ca C nm1 ga gb) : StOk Ca C (fun j => nm j && nm1 j) (fun σ h => (fa σ h).seq ga) (fun bs => (fb bs).seq gb) := by
  intro n0 h σ bs O ow sr B
  have r := hf B
  have w : ∀ j, (nm j && nm1 j) = true → nm j = true := fun j hj => by rw [Bool.and_eq_true] at hj; exact hj.1
  cases hb : fb bs with
  | nx s =>
    rw [hb] at r
    obtain ⟨σ', h', e, O', ow', sr', b, s2, k⟩ := r
    show ResX C n0 h O ow sr _ ((fa σ h).seq ga) ((fb bs).seq gb)
    rw [hb, e]
    exact ResX.after B.lt s2 k (hg b)
  | bk s =>
    have r := ResX.nm r w
    rw [hb] at r
    obtain ⟨σ', h', e, rest⟩ := r
    show ResX C n0 h O ow sr _ ((fa σ h).seq ga) ((fb bs).seq gb)
    rw [hb, e]
    exact ⟨σ', h', rfl, rest⟩
  | ct s =>
    have r := ResX.nm r w
    rw [hb] at r
    obtain ⟨σ', h', e, rest⟩ := r
    show ResX C n0 h O ow sr _ ((fa σ h).seq ga) ((fb bs).seq gb)
    rw [hb, e]
    exact ⟨σ', h', rfl, rest⟩
  | rt x st =>
    have r := ResX.nm r w
    rw [hb] at r
    obtain ⟨v, h', O', ow', sr', e, rest⟩ := r
    show ResX C n0 h O ow sr _ ((fa σ h).seq ga) ((fb bs).seq gb)
    rw [hb, e]
    exact ⟨v, h', O', ow', sr', rfl, rest⟩
  | bad =>
    show ResX C n0 h O ow sr _ ((fa σ h).seq ga) ((fb bs).seq gb)
    rw [hb]
    exact trivial
theorem ife_S {c : E} {nm1 nm2 : Nat → Bool} {fa ga : Sl → Hh → RX} {fb gb : BS → BX} (hc : EvOk Ca C c) (hf : StOk Ca C nm1 fa fb) (hg : StOk Ca C nm2 ga gb) :
    StOk Ca C (fun j => nmE j c && (nm1 j && nm2 j)) (fun σ h => ofE' σ (tst (ev Ca c σ h)) fun k h1 => if k = true then fa σ h1 else ga σ h1) (fun bs => (btst C c bs).st fun k s1 => if k = true then fb s1 else gb s1) := by
  intro n0 h σ bs O ow sr B
  refine st_ev fun k s1 e1 => ?_
  obtain ⟨h1, O1, ow1, q1, B1, S1⟩ := tst_ok hc B e1
  dsimp only
  rw [q1]
  cases k with
  | true =>
    show ResX C n0 h O ow sr _ (if true = true then fa σ h1 else ga σ h1) _
    rw [if_pos rfl, if_pos rfl]
    exact (ResX.after B.lt S1 (fun _ => rfl) (hf B1)).nm fun j hj => by
      simp only [Bool.and_eq_true] at hj ⊢
      exact ⟨hj.1, hj.2.1⟩
  | false =>
    show ResX C n0 h O ow sr _ (if false = true then fa σ h1 else ga σ h1) _
    rw [if_neg Bool.false_ne_true, if_neg Bool.false_ne_true]
    exact (ResX.after B.lt S1 (fun _ => rfl) (hg B1)).nm fun j hj => by
      simp only [Bool.and_eq_true] at hj ⊢
      exact ⟨hj.1, hj.2.2⟩
/-- a turn -/
theorem turn_B {nm nm1 : Nat → Bool} {ra : RX} {rb : BX} {ga : Sl → Hh → RX} {gb : BS → BX} (hO : ∀ l, l ∈ O → l < h.length) (r : ResX C n0 h O ow sr nm ra rb)
    (hg : ∀ {σ' : Sl} {h' : Hh} {s : BS} {O' : List Nat} {ow' : Ow} {sr' : So}, BR n0 h' σ' s O' ow' sr' → Stp h O ow sr h' O' ow' sr' nm → (C.sg = none → sr' = sr) → ResX C n0 h' O' ow' sr' nm1 (ga σ' h') (gb s)) :
    ResX C n0 h O ow sr (fun j => nm j && nm1 j) (turn ra ga) (turnB rb gb) := by
  have w : ∀ j, (nm j && nm1 j) = true → nm j = true := fun j hj => by rw [Bool.and_eq_true] at hj; exact hj.1
  cases rb with
  | nx s =>
    obtain ⟨σ', h', rfl, O', ow', sr', b, s2, k⟩ := r
    exact ResX.after hO s2 k (hg b s2 k)
  | ct s =>
    obtain ⟨σ', h', rfl, O', ow', sr', b, s2, k⟩ := r
    exact ResX.after hO s2 k (hg b s2 k)
  | bk s =>
    obtain ⟨σ', h', rfl, O', ow', sr', b, s2, k⟩ := r
    exact ⟨σ', h', rfl, O', ow', sr', b, s2.nm w, k⟩
  | rt x st =>
    obtain ⟨v, h', O', ow', sr', rfl, so, s2, k, q⟩ := r
    exact ⟨v, h', O', ow', sr', rfl, so, s2.nm w, k, q⟩
  | bad => trivial
theorem forGo_B {tg : Tg} {nm : Nat → Bool} {src : List (Nat × Ob)} {fa : Sl → Hh → RX} {fb : BS → BX} (hf : StOk Ca C nm fa fb) : ∀ (ys : List Ya) (zs : List Yb) {n0 : Nat} {h : Hh} {σ : Sl} {bs : BS} {O : List Nat} {ow : Ow} {sr : So},
    BR n0 h σ bs O ow sr → YsP n0 h O ys zs → SrcP h ow sr nm src → ResX C n0 h O ow sr nm (forGo src tg fa ys σ h) (forGoB tg fb zs bs) := by
  intro ys
  induction ys with
  | nil =>
    intro zs n0 h σ bs O ow sr B Y Sp
    cases Y
    refine ⟨σ, h, ?_, O, ow, sr, B, .refl, fun _ => rfl⟩
    show (if live src h = true then RX.nx σ h else .bad) = _
    rw [if_pos Sp.live]
  | cons y ys ih =>
    intro zs n0 h σ bs O ow sr B Y Sp
    cases Y with
    | cons a Y =>
      rename_i z zs
      show ResX C n0 h O ow sr nm _ (match tgYB tg z bs.sl with
        | some σ => turnB (fb ⟨σ, bs.st⟩) (forGoB tg fb zs)
        | none => .bad)
      split
      · rename_i sl' et
        obtain ⟨σ2, ow2, q2, B2, m2, k2, n2⟩ := tgY_B B a et
        have ea : forGo src tg fa (y :: ys) σ h = turn (fa σ2 h) (forGo src tg fa ys) := by
          show (if live src h = true then match tgY h tg y σ with
            | some σ1 => turn (fa σ1 h) (forGo src tg fa ys)
            | none => .bad
          else .bad) = _
          rw [if_pos Sp.live, q2]
        rw [ea]
        have S0 : Stp h O ow sr h O ow2 sr (fun _ => true) := ⟨Nat.le_refl _, fun _ _ e _ _ => e, fun l z no => z, fun l z => .inl z, fun j l z => .inl (m2 j l z), fun l z => .inl z⟩
        have Sp2 : SrcP h ow2 sr nm src := fun p hp => ⟨(Sp p hp).1, (Sp p hp).2.1, fun j hj => (Sp p hp).2.2 j (m2 j _ hj)⟩
        have R := turn_B (nm1 := nm) B2.lt (hf B2) (ga := forGo src tg fa ys) (gb := forGoB tg fb zs) fun B3 S3 _ => ih zs B3 (Y.step B2 S3) (Sp2.step S3 fun j hj => hj)
        exact (ResX.after B.lt S0 (fun _ => rfl) R).nm fun j hj => by rw [hj]; rfl
      · exact trivial
theorem for_B {it : It} {tg : Tg} {nm : Nat → Bool} {fa : Sl → Hh → RX} {fb : BS → BX} (hi : EvIOk Ca C it) (hf : StOk Ca C nm fa fb) :
    StOk Ca C (fun j => nmIt j it && nm j) (fun σ h => ofE' σ (evIt Ca it σ h) fun w h1 => forGo w.src tg fa w.ys σ h1) (fun bs => (bevIt C nm it bs).st fun ys s1 => forGoB tg fb ys s1) := by
  intro n0 h σ bs O ow sr B
  refine st_ev fun zs s1 e1 => ?_
  obtain ⟨h1, w, O1, ow1, q1, B1, S1, Y1, Sp1⟩ := hi B e1
  dsimp only
  rw [q1]
  exact ResX.after B.lt S1 (fun _ => rfl) (forGo_B (Ca := Ca) hf w.ys zs B1 Y1 Sp1)
theorem whlGo_B {c : E} {nm : Nat → Bool} {fa : Sl → Hh → RX} {fb : BS → BX} (hc : EvOk Ca C c) (hf : StOk Ca C nm fa fb) : ∀ n : Nat, StOk Ca C (fun j => nmE j c && nm j) (whlGo (fun σ h => tst (ev Ca c σ h)) fa n) (whlGoB (btst C c) fb n) := by
  intro n
  induction n with
  | zero => intro n0 h σ bs O ow sr B; exact trivial
  | succ n ih =>
    intro n0 h σ bs O ow sr B
    refine st_ev fun k s1 e1 => ?_
    obtain ⟨h1, O1, ow1, q1, B1, S1⟩ := tst_ok hc B e1
    show ResX C n0 h O ow sr _ (ofE' σ (tst (ev Ca c σ h)) fun k h1 => if k = true then turn (fa σ h1) (whlGo (fun σ h => tst (ev Ca c σ h)) fa n) else .nx σ h1) _
    rw [q1]
    cases k with
    | true =>
      show ResX C n0 h O ow sr _ (if true = true then turn (fa σ h1) (whlGo (fun σ h => tst (ev Ca c σ h)) fa n) else .nx σ h1) _
      rw [if_pos rfl, if_pos rfl]
      have R := turn_B (nm1 := fun j => nmE j c && nm j) B1.lt (hf B1) (ga := whlGo (fun σ h => tst (ev Ca c σ h)) fa n) (gb := whlGoB (btst C c) fb n) fun B3 S3 _ => ih B3
      exact (ResX.after B.lt S1 (fun _ => rfl) R).nm fun j hj => by
        simp only [Bool.and_eq_true] at hj ⊢
        exact ⟨hj.1, hj.2, hj.1, hj.2⟩
    | false =>
      show ResX C n0 h O ow sr _ (if false = true then turn (fa σ h1) (whlGo (fun σ h => tst (ev Ca c σ h)) fa n) else .nx σ h1) _
      rw [if_neg Bool.false_ne_true, if_neg Bool.false_ne_true]
      exact ⟨σ, h1, rfl, O1, ow1, sr, B1, S1.nm fun j hj => by rw [Bool.and_eq_true] at hj; exact hj.1, fun _ => rfl⟩
/-- how a stream is made -/
def StmOk (Ca : Cf) (C : Cb) : Prop := ∀ (g : Nat), C.sg = some g → ∀ {P : PP} {h : Hh} {v : Va} {t : Tr} {s : Strm}, RTop P h v t → streamOf C.ns t = some s → Ca.call g [v] h = .ok (.ref (h.length + 1)) (h ++ [.lst (s.rest.map .int), .lst [.ref h.length, .int s.cur, .int s.cnt, .int s.mix]])
theorem BR.newStr {s : Strm} {p : Nat × Nat} (B : BR n0 h σ bs O ow sr) (h1 : p.1 ∈ O) (h2 : p.2 ∈ O) (n1 : ∀ l, isOwn ow l → l ≠ p.1 ∧ l ≠ p.2) (so : StrOk h (some p) s) : BR n0 h σ ⟨noSt bs.sl, s⟩ O ow (some p) := by
  refine ⟨by show σ.length = (noSt bs.sl).length; unfold noSt; rw [List.length_map]; exact B.len, by show ow.length = (noSt bs.sl).length; unfold noSt; rw [List.length_map]; exact B.ol, fun i b e => ?_, fun l z => ⟨(B.inO l z).1, fun ⟨q, e, w⟩ => by
    cases e
    rcases w with w | w
    · exact (n1 l z).1 w
    · exact (n1 l z).2 w⟩, B.inj, so, fun l ⟨q, e, w⟩ => by
    cases e
    rcases w with w | w
    · rw [w]; exact h1
    · rw [w]; exact h2, B.lt, B.n0⟩
  have e : (noSt bs.sl)[i]? = some b := e
  unfold noSt at e
  rw [List.getElem?_map] at e
  cases q : bs.sl[i]? with
  | none => rw [q] at e; cases e
  | some c =>
    rw [q] at e
    have r := B.slots i c q
    cases c with
    | no => cases e; trivial
    | st => cases e; trivial
    | val t own fr => cases e; exact r
theorem stm_B {i g : Nat} {as : Es} (hg : C.sg = some g) (hm : StmOk Ca C) (ha : EvTOk Ca C as) : StOk Ca C (fun j => nmEs j as) (ex Ca (.asg (.nm i) (.call g as))) (fun bs => (bevT C as bs).st fun xs s1 => match finsT xs s1 with
      | some ([t], _) => match streamOf C.ns t with
        | some s => .nx ⟨(noSt s1.sl).set i .st, s⟩
        | none => .bad
      | _ => .bad) := by
  intro n0 h σ bs O ow sr B
  refine st_ev fun xs s1 e1 => ?_
  obtain ⟨h1, vs, O1, ow1, q1, B1, S1, p1⟩ := ha B e1
  split
  · rename_i t f ef
    split
    · rename_i s es
      obtain ⟨v, rfl, rv⟩ := (p1.fin B1 ef).one
      have ec := hm g hg rv es
      have ea : ex Ca (.asg (.nm i) (.call g as)) σ h = .nx (σ.set i (some (.ref (h1.length + 1)))) (h1 ++ [.lst (s.rest.map .int), .lst [.ref h1.length, .int s.cur, .int s.cnt, .int s.mix]]) := by
        have e0 : ev Ca (.call g as) σ h = .ok (.ref (h1.length + 1)) (h1 ++ [.lst (s.rest.map .int), .lst [.ref h1.length, .int s.cur, .int s.cnt, .int s.mix]]) := by
          show (evs Ca as σ h).bind _ = _
          rw [q1]
          exact ec
        show ofE' σ (ev Ca (.call g as) σ h) _ = _
        rw [e0]
        rfl
      rw [ea]
      have e2 : h1 ++ [Ob.lst (s.rest.map .int), Ob.lst [.ref h1.length, .int s.cur, .int s.cnt, .int s.mix]] = (h1 ++ [Ob.lst (s.rest.map .int)]) ++ [Ob.lst [.ref h1.length, .int s.cur, .int s.cnt, .int s.mix]] := by simp
      have B2 := B1.more (l := h1.length) (Nat.le_refl _) [Ob.lst (s.rest.map .int)] (by simp)
      have B3 := B2.more (l := h1.length + 1) (by simp) [Ob.lst [.ref h1.length, .int s.cur, .int s.cnt, .int s.mix]] (by simp)
      have lt1 : ∀ l, isOwn ow1 l → l < h1.length := fun l z => B1.lt l (B1.inO l z).1
      have B4 := B3.newStr (s := s) (p := (h1.length + 1, h1.length)) List.mem_cons_self (List.mem_cons_of_mem _ List.mem_cons_self) (fun l z => by have := lt1 l z; exact ⟨by show l ≠ h1.length + 1; omega, by show l ≠ h1.length; omega⟩) (fun p e => by
        cases e
        refine ⟨by show h1.length + 1 ≠ h1.length; omega, ?_, ?_⟩
        · show ((h1 ++ [Ob.lst (s.rest.map .int)]) ++ [Ob.lst [.ref h1.length, .int s.cur, .int s.cnt, .int s.mix]])[h1.length + 1]? = _
          rw [List.getElem?_append_right (by simp)]
          simp
        · show ((h1 ++ [Ob.lst (s.rest.map .int)]) ++ [Ob.lst [.ref h1.length, .int s.cur, .int s.cnt, .int s.mix]])[h1.length]? = _
          rw [List.getElem?_append_left (by simp), List.getElem?_append_right (by simp)]
          simp)
      have B5 := B4.put (i := i) (v := some (.ref (h1.length + 1))) (b := .st) (w := none) (fun _ => ⟨(h1.length + 1, h1.length), rfl, rfl⟩) (fun l z => by cases z)
      rw [e2]
      have own5 : ∀ (j l : Nat), (ow1.set i none)[j]? = some (some l) → ow1[j]? = some (some l) := fun j l z => by
        rw [List.getElem?_set] at z
        split at z
        · split at z <;> cases z
        · exact z
      have S2 : Stp h1 O1 ow1 sr ((h1 ++ [Ob.lst (s.rest.map .int)]) ++ [Ob.lst [.ref h1.length, .int s.cur, .int s.cnt, .int s.mix]]) ((h1.length + 1) :: h1.length :: O1) (ow1.set i none) (some (h1.length + 1, h1.length)) (fun _ => true) := by
        refine ⟨by simp, fun l o e _ _ => get_app (get_app e), fun l z _ => List.mem_cons_of_mem _ (List.mem_cons_of_mem _ z), fun l z => ?_, fun j l z => .inl (own5 j l z), fun l ⟨q, e, w⟩ => ?_⟩
        · rcases List.mem_cons.mp z with rfl | z
          · exact .inr (by omega)
          · rcases List.mem_cons.mp z with rfl | z
            · exact .inr (Nat.le_refl _)
            · exact .inl z
        · cases e
          rcases w with w | w
          · exact .inr (by rw [w]; show h1.length ≤ h1.length + 1; omega)
          · exact .inr (by rw [w]; exact Nat.le_refl _)
      refine ⟨_, _, rfl, _, _, _, B5, (Stp.trans B.lt S1 S2).nm fun j hj => by rw [Bool.and_true]; exact hj, fun z => by rw [hg] at z; cases z⟩
    · exact trivial
  · exact trivial
end
mutual
theorem st_B {Ca : Cf} {C : Cb} (hn : Ca.ns = C.ns) (hc : CallsOk Ca C) (hm : StmOk Ca C) : ∀ s : Sm, StOk Ca C (fun j => nmS j s) (ex Ca s) (bex C s)
  | .asg tg e => by
    have gen : StOk Ca C (fun j => nmE j e) (ex Ca (.asg tg e)) (fun bs => (bev C e bs).st fun v s1 => nxB (tgYB tg (.one v) s1.sl) s1.st) := asg_B (ev_B hn hc e)
    intro B
    show ResX C _ _ _ _ _ (fun j => nmE j e) _ _
    unfold bex
    split
    · rename_i i g as
      split
      · rename_i hg
        exact stm_B hg hm (evT_B hn hc as) B
      · exact gen B
    · exact gen B
  | .asgs ts e => by
    intro B
    unfold bex
    split
    · exact asgs_B (ev_B hn hc) (evs_B hn hc _) B
    · exact trivial
  | .par is es => par_B (evs_B hn hc es)
  | .set o i e => set_B (ev_B hn hc i) (ev_B hn hc e)
  | .exp e => exp_B (ev_B hn hc e)
  | .ret e => by
    intro B
    show ResX C _ _ _ _ _ (fun j => nmE j e) _ _
    unfold bex
    split
    · exact (retV_B B).nm fun _ _ => rfl
    · exact ret_B (ev_B hn hc _) B
  | .ife c a b => ife_S (ev_B hn hc c) (sts_B hn hc hm a) (sts_B hn hc hm b)
  | .for_ it tg b => for_B (evIt_B hn hc it) (sts_B hn hc hm b)
  | .whl c b => whlGo_B (ev_B hn hc c) (sts_B hn hc hm b) WN
  | .brk => fun B => ⟨_, _, rfl, _, _, _, B, .refl, fun _ => rfl⟩
  | .cont => fun B => ⟨_, _, rfl, _, _, _, B, .refl, fun _ => rfl⟩
  | .pass => fun B => ⟨_, _, rfl, _, _, _, B, .refl, fun _ => rfl⟩
  | .never => fun B => trivial
theorem sts_B {Ca : Cf} {C : Cb} (hn : Ca.ns = C.ns) (hc : CallsOk Ca C) (hm : StmOk Ca C) : ∀ s : Ss, StOk Ca C (fun j => nmSs j s) (exs Ca s) (bexs C s)
  | .nil => fun B => ⟨_, _, rfl, _, _, _, B, .refl, fun _ => rfl⟩
  | .cons s r => seq_B (Ca := Ca) (st_B hn hc hm s) (sts_B hn hc hm r)
end
end HA

namespace HA
open PySem PySem.Spec PyProof.Rows L2

/-! ### layer B: calls -/
/-- the draw, as the text has it, is the stream's law -/
def DrawOk (ns : List Int) (T : List Df) (dg : Nat) : Prop := ∀ (k : Nat) (h : Hh) (p : Nat × Nat) (st st' : Strm) (m i : Int), StrOk h (some p) st → drawS st m = some (i, st') →
  ∃ h', callN ns T (k + 1) dg [.ref p.1, .int m] h = .ok (.int i) h' ∧ h.length ≤ h'.length ∧ (∀ (l : Nat) (o : Ob), h[l]? = some o → ¬ isStr (some p) l → h'[l]? = some o) ∧ StrOk h' (some p) st'
theorem start_B {n : Nat} {h : Hh} {O : List Nat} {sr : So} {as : List Va} {xs : List Ar} {st : Strm} (so : StrOk h sr st) (sO : ∀ l, isStr sr l → l ∈ O) (lt : ∀ l, l ∈ O → l < h.length) (a : ArsP h O sr as xs) :
    BR h.length h (as.map some ++ List.replicate (n - as.length) none) ⟨xs.map arS ++ List.replicate (n - xs.length) .no, st⟩ O (List.replicate (xs.length + (n - xs.length)) none) sr := by
  have hl : as.length = xs.length := by
    induction a with
    | nil => rfl
    | v _ _ ih => rw [List.length_cons, List.length_cons, ih]
    | s _ _ ih => rw [List.length_cons, List.length_cons, ih]
  have noOwn : ∀ (j l : Nat), (List.replicate (xs.length + (n - xs.length)) (none : Option Nat))[j]? ≠ some (some l) := fun j l z => by
    rw [List.getElem?_replicate] at z
    split at z <;> cases z
  refine ⟨by simp [hl], by simp, fun i b e => ?_, fun l ⟨j, z⟩ => absurd z (noOwn j l), fun i j l z => absurd z (noOwn i l), so, sO, lt, Nat.le_refl _⟩
  rw [List.getElem?_append] at e
  rw [List.getElem?_append]
  simp only [List.length_map] at e ⊢
  split at e
  · rename_i hi
    rw [if_pos (by omega), List.getElem?_map]
    rw [List.getElem?_map] at e
    cases q : xs[i]? with
    | none => rw [q] at e; cases e
    | some x =>
      rw [q] at e
      cases e
      have go : ∀ {as : List Va} {xs : List Ar} {i : Nat} {x : Ar}, ArsP h O sr as xs → xs[i]? = some x → ∃ v, as[i]? = some v ∧ match x with
        | .v y => Rd' (Pd O 0 false) h v y.t
        | .s => ∃ p, sr = some p ∧ v = .ref p.1 := by
        intro as xs i x a
        induction a generalizing i with
        | nil => intro e; simp at e
        | v r _ ih =>
          intro e
          cases i with
          | zero => cases e; exact ⟨_, rfl, r⟩
          | succ i => exact ih e
        | s e0 _ ih =>
          intro e
          cases i with
          | zero => cases e; exact ⟨_, rfl, _, e0, rfl⟩
          | succ i => exact ih e
      obtain ⟨v, e1, r⟩ := go a q
      cases x with
      | v y =>
        refine ⟨v, by rw [e1]; rfl, ?_⟩
        rw [if_neg Bool.false_ne_true]
        exact r.imp fun l m o p q => ⟨⟨p.1, fun z => by cases z⟩, q⟩
      | s =>
        obtain ⟨p, e2, rfl⟩ := r
        exact ⟨p, e2, by rw [e1]; rfl⟩
  · rw [List.getElem?_replicate] at e
    split at e
    · cases e; trivial
    · cases e
theorem run_B {Ca : Cf} {C : Cb} (hn : Ca.ns = C.ns) (hc : CallsOk Ca C) (hs : C.sg = none) {d : Df} {h : Hh} {O : List Nat} {sr : So} {as : List Va} {xs : List Ar} {st st' : Strm} {x : Lv} (e : runB C d xs st = .ok x st') (so : StrOk h sr st) (sO : ∀ l, isStr sr l → l ∈ O) (lt : ∀ l, l ∈ O → l < h.length) (a : ArsP h O sr as xs) :
    ∃ h' v, runDf Ca d as h = .ok v h' ∧ h.length ≤ h'.length ∧ (∀ (l : Nat) (o : Ob), h[l]? = some o → ¬ isStr sr l → h'[l]? = some o) ∧ StrOk h' sr st' ∧ LvC h.length h' O v x := by
  have hl : as.length = xs.length := by
    clear e
    induction a with
    | nil => rfl
    | v _ _ ih => rw [List.length_cons, List.length_cons, ih]
    | s _ _ ih => rw [List.length_cons, List.length_cons, ih]
  unfold runB at e
  split at e
  · rename_i hps
    have B := start_B (n := d.n) so sO lt a
    have R := sts_B hn hc (fun g hg => by rw [hs] at hg; cases hg) d.body B
    have noOwn : ∀ (j l : Nat), (List.replicate (xs.length + (d.n - xs.length)) (none : Option Nat))[j]? ≠ some (some l) := fun j l z => by
      rw [List.getElem?_replicate] at z
      split at z <;> cases z
    have ed : runDf Ca d as h = (match exs Ca d.body (as.map some ++ List.replicate (d.n - as.length) none) h with
      | .rt v h1 => .ok v h1
      | .nx _ h1 => .ok .non h1
      | .exc c e _ h1 => .exc c e h1
      | _ => .bad) := by
      unfold runDf
      rw [if_pos (by rw [hl]; exact hps)]
      all_goals rfl
    have ho : ∀ {O' : List Nat} {h' : Hh} {ow' : Ow} {sr' : So} {nm : Nat → Bool}, Stp h O (List.replicate (xs.length + (d.n - xs.length)) none) sr h' O' ow' sr' nm → ∀ l, l ∈ O → l ∈ O' := fun S l z => S.oin l z fun ⟨j, w⟩ => noOwn j l w
    split at e
    · rename_i v s er
      cases e
      rw [er] at R
      obtain ⟨v', h', O', ow', sr', e1, so', S, k, q⟩ := R
      have k := k hs
      subst k
      rw [ed, e1]
      refine ⟨h', v', rfl, S.len, fun l o e s => S.keep l o e s fun j hj => absurd hj (noOwn j l), so', ?_⟩
      unfold RetP at q
      unfold LvC
      split at q
      · rename_i hu
        rw [if_pos hu]
        obtain ⟨m, l, rfl, a1, a2, a3, r⟩ := q
        exact ⟨m, l, rfl, a1, a2, r.less fun y z => by
          rcases List.mem_cons.mp z with rfl | z
          · exact a3
          · exact ho S y z⟩
      · rename_i hu
        rw [if_neg hu]
        exact q.less (ho S)
    · rename_i s er
      cases e
      rw [er] at R
      obtain ⟨σ', h', e1, O', ow', sr', B', S, k⟩ := R
      have k := k hs
      subst k
      rw [ed, e1]
      refine ⟨h', .non, rfl, S.len, fun l o e s => S.keep l o e s fun j hj => absurd hj (noOwn j l), B'.str, ?_⟩
      unfold LvC
      rw [if_neg Bool.false_ne_true]
      exact .non
    · cases e
  · cases e
theorem callB_step {ns : List Int} {T : List Df} {dg : Nat} (hd : DrawOk ns T dg) (k : Nat) (ih : CallsOk ⟨ns, callN ns T k⟩ ⟨ns, none, callB ns dg T k⟩) : CallsOk ⟨ns, callN ns T (k + 1)⟩ ⟨ns, none, callB ns dg T (k + 1)⟩ := by
  intro h O sr as xs st st' g x e0 so sO lt a
  have e : callB ns dg T (k + 1) g xs st = .ok x st' := e0
  clear e0
  unfold callB at e
  split at e
  · rename_i hg
    subst hg
    split at e
    · rename_i y
      split at e
      · rename_i m hy
        split at e
        · rename_i i s ed
          cases e
          cases a with
          | s e0 a =>
            subst e0
            cases a with
            | v r a =>
              cases a
              rw [hy] at r
              cases r
              obtain ⟨h', q1, q2, q3, q4⟩ := hd k h _ st _ m i so ed
              refine ⟨h', .int i, q1, q2, q3, q4, ?_⟩
              unfold LvC
              rw [if_neg Bool.false_ne_true]
              exact .int i
        · cases e
      · cases e
    · cases e
  · split at e
    · rename_i d hT
      obtain ⟨h', v, q⟩ := run_B rfl ih rfl e so sO lt a
      refine ⟨h', v, ?_, q.2⟩
      show (match T[g]? with
        | some d => runDf ⟨ns, callN ns T k⟩ d as h
        | none => .bad) = _
      rw [hT]
      exact q.1
    · cases e
theorem callB_ok {ns : List Int} {T : List Df} {dg : Nat} (hd : DrawOk ns T dg) : ∀ k : Nat, CallsOk ⟨ns, callN ns T k⟩ ⟨ns, none, callB ns dg T k⟩
  | 0 => fun e _ _ _ _ => by cases e
  | k + 1 => callB_step hd k (callB_ok hd k)
/-- a law, by layer B -/
theorem lawB {T : List Df} {dg sg k g : Nat} {d : Df} (hd : ∀ ns, DrawOk ns T dg) (hm : ∀ ns, StmOk ⟨ns, callN ns T k⟩ ⟨ns, some sg, callB ns dg T k⟩) (hT : T[g]? = some d) (hp : d.ps = 1)
    (L : ∀ ns : List Int, ns.length ≤ 63 → ∃ f u st, bexs ⟨ns, some sg, callB ns dg T k⟩ d.body ⟨.val .scr false false :: List.replicate (d.n - 1) .no, ⟨[], 0, 0, 0⟩⟩ = .rt ⟨.bl true, f, u⟩ st) : LawT T (k + 1) g := by
  intro ns hl
  obtain ⟨f, u, st, e⟩ := L ns hl
  have B : BR 0 [] ([some Va.scr] ++ List.replicate (d.n - 1) none) ⟨.val .scr false false :: List.replicate (d.n - 1) .no, ⟨[], 0, 0, 0⟩⟩ [] (List.replicate (1 + (d.n - 1)) none) none := by
    have := start_B (n := d.n) (h := []) (O := []) (sr := none) (as := [Va.scr]) (xs := [.v ⟨.scr, true, false⟩]) (st := ⟨[], 0, 0, 0⟩) (fun p e => by cases e) (fun l ⟨p, e, _⟩ => by cases e) (fun l z => by cases z) (.v .scr .nil)
    exact this
  have CO : CallsOk ⟨ns, callN ns T k⟩ ⟨ns, some sg, callB ns dg T k⟩ := callB_ok (hd ns) k
  have R := sts_B (Ca := ⟨ns, callN ns T k⟩) (C := ⟨ns, some sg, callB ns dg T k⟩) rfl CO (hm ns) d.body B
  rw [e] at R
  obtain ⟨v', h', O', ow', sr', e1, _, _, _, q⟩ := R
  refine ⟨h', ?_⟩
  show (match T[g]? with
    | some d => runDf ⟨ns, callN ns T k⟩ d [.scr] []
    | none => .bad) = _
  rw [hT]
  simp only []
  unfold runDf
  rw [if_pos (by rw [hp]; rfl)]
  have e2 : exs ⟨ns, callN ns T k⟩ d.body ([Va.scr].map some ++ List.replicate (d.n - [Va.scr].length) none) [] = .rt v' h' := e1
  rw [e2]
  simp only []
  unfold RetP at q
  split at q
  · obtain ⟨m, _⟩ := q
    cases m
  · cases q
    rfl
end HA

namespace HA
open PySem PySem.Spec PyProof.Rows L2

/-! ### from the head's facts to a module of defs -/
def entD (e : Ent) : He.DefD := ⟨(e.x, none), e.x, e.x, defArgs e.st, defBody e.st, defScope e.st, [], []⟩
/-- every parameter is given by place -/
def BindP (ps : List Str) (params : Arguments) : Prop := ∀ (x qual : Str) (body : List Stmt) (scope : Scope) (kV doc pm : Value) (an : Option Addr) (cdv ct : Value) (us : List Value), us.length = ps.length → bindArgs (PySem.W.fnOf x qual params body scope .none kV doc pm an cdv ct) ⟨us, []⟩ = pure (ps.zip us)
/-- some by name -/
def KwP (ps : List Str) (params : Arguments) (n : Nat) (ks : List Str) : Prop := ∀ (x qual : Str) (body : List Stmt) (scope : Scope) (kV doc pm : Value) (an : Option Addr) (cdv ct : Value) (pr : List Nat) (us ws zs : List Value), kwPerm ps n ks = some pr → us.length = n → ws.length = ks.length → permA (us ++ ws) pr = some zs →
  bindArgs (PySem.W.fnOf x qual params body scope .none kV doc pm an cdv ct) ⟨us, ks.zip ws⟩ = pure (ps.zip zs)
def scB (N ps : List Str) (sc : Scope) : Bool := (match sc.kind with | .function => true | _ => false) && (!sc.isCoroutine && (!sc.isGenerator && (decide N.Nodup && (decide (N.take ps.length = ps) && ((ps.all fun x => match sc.names.lookup x with
  | some .local => true
  | some .cell => true
  | _ => false) && sc.names.all fun y => match y.2 with
  | .free => false
  | _ => true)))))
theorem scB_ok {N ps : List Str} {sc : Scope} (h : scB N ps sc = true) : FnScope N ps sc := by
  unfold scB at h
  simp only [Bool.and_eq_true, Bool.not_eq_true', decide_eq_true_eq, List.all_eq_true] at h
  obtain ⟨h1, h2, h3, h4, h5, h6, h7⟩ := h
  refine ⟨?_, h2, h3, h4, h5, fun x hx => ?_, fun y hy e => ?_⟩
  · split at h1
    · assumption
    · cases h1
  · have q := h6 x hx
    split at q
    · rename_i e; exact .inl e
    · rename_i e; exact .inr e
    · cases q
  · have q := h7 y hy
    rw [e] at q
    cases q
def mkT (G : List (Str × Gd)) (KW : List (Str × Nat × List Str)) (es : List Ent) : List (Option Df) := es.map fun e => match cS.cSs (cS ⟨e.N, defScope e.st, none, G, KW⟩ FU) (defBody e.st) with
  | some b => some ⟨e.N.length, e.ps.length, b⟩
  | none => none
def glB (G : List (Str × Gd)) (es : List Ent) : Bool := G.all fun p => match p.2 with
  | .df g ps => (match es[g]? with
    | some e => decide (e.x = p.1) && decide (e.ps = ps)
    | none => false)
  | .cls _ => true
theorem lookup_mem {α : Type} {x : Str} {v : α} : ∀ {l : List (Str × α)}, l.lookup x = some v → (x, v) ∈ l
  | [], h => by cases h
  | (y, w) :: l, h => by
    rw [List.lookup_cons] at h
    split at h
    · rename_i hb
      cases h
      rw [show x = y from eq_of_beq hb]
      exact List.mem_cons_self
    · exact List.mem_cons_of_mem _ (lookup_mem h)
theorem modOk_of {K : PySem.W.Frag} {h : Heap} {mg : Str → Option Value} {fa : List He.Fa} {G : List (Str × Gd)} {KW : List (Str × Nat × List Str)} {es : List Ent} {T : List Df} (X : K.In h) (Gm : h.Ns mainGlobals mg) (c : He.SaysD fa (es.map entD) K)
    (hglo : ∀ (g : Nat) (e : Ent), es[g]? = some e → He.Fa.glo e.x ∈ fa) (hfree : ∀ x ∈ usedB, G.lookup x = none → He.Fa.free x ∈ fa)
    (hb : ∀ e ∈ es, BindP e.ps (defArgs e.st)) (hk : ∀ e ∈ es, ∀ (n : Nat) (ks : List Str), (e.x, n, ks) ∈ KW → KwP e.ps (defArgs e.st) n ks)
    (hsc : (es.all fun e => scB e.N e.ps (defScope e.st)) = true) (hT : mkT G KW es = T.map some) (hgl : glB G es = true) : ModOk K mg G KW es T := by
  have fact : ∀ f, f ∈ fa → f.ok K = true := fun f hf => by
    obtain ⟨i, hi⟩ := List.getElem?_of_mem hf
    exact c.fact i hi
  refine ⟨fun g e he => ?_, fun g e he => scB_ok (List.all_eq_true.mp hsc e (List.mem_of_getElem? he)), fun g e he => ?_, ?_, fun x g ps hx => ?_, fun x hx hn => He.free_ok X Gm (fact _ (hfree x hx hn))⟩
  · obtain ⟨fd, F⟩ := c.def_ g (d := entD e) (by rw [List.getElem?_map, he]; rfl)
    have hm := He.glo_ok X Gm (fact _ (hglo g e he))
    have em := List.mem_of_getElem? he
    refine ⟨_, fd, hm, F, F.bindsN fun kV doc pm an cdv ct us hl => hb e em _ _ _ _ _ _ _ _ _ _ us hl, fun n ks hks pr s us ws zs hp hK l1 l2 hz => ?_⟩
    obtain ⟨oc, od, dV, kV, doc, pm, an, cdv, ct, osl, rfl, lk, hcd, hD, hKw⟩ := F.ex
    rcases hD with ⟨_, rfl⟩ | ⟨e0, _⟩
    · exact BindsTo.of_eq (hk e em n ks hks _ _ _ _ _ _ _ _ _ _ pr us ws zs hp l1 l2 hz)
    · exact absurd rfl e0
  · have h1 : (mkT G KW es)[g]? = (T.map some)[g]? := by rw [hT]
    unfold mkT at h1
    rw [List.getElem?_map, List.getElem?_map, he] at h1
    cases hq : T[g]? with
    | none => rw [hq] at h1; cases h1
    | some d =>
      rw [hq] at h1
      have h1 : (match cS.cSs (cS ⟨e.N, defScope e.st, none, G, KW⟩ FU) (defBody e.st) with
        | some b => some (⟨e.N.length, e.ps.length, b⟩ : Df)
        | none => none) = some d := Option.some.inj h1
      split at h1
      · rename_i b eb
        cases h1
        exact ⟨b, rfl, eb⟩
      · cases h1
  · have := congrArg List.length hT
    unfold mkT at this
    rw [List.length_map, List.length_map] at this
    exact this.symm
  · have q := List.all_eq_true.mp hgl _ (lookup_mem hx)
    simp only [] at q
    split at q
    · rename_i e he
      rw [Bool.and_eq_true] at q
      exact ⟨e, he, of_decide_eq_true q.1, of_decide_eq_true q.2⟩
    · cases q
end HA
namespace HA
open PySem PySem.Spec PyProof.Rows L2
def AllP {α : Type} (P : α → Prop) : List α → Prop
  | [] => True
  | x :: xs => P x ∧ AllP P xs
theorem AllP.mem {α : Type} {P : α → Prop} : ∀ {l : List α}, AllP P l → ∀ x ∈ l, P x
  | [], _, x, h => by cases h
  | y :: l, h, x, hx => by
    rcases List.mem_cons.mp hx with rfl | hx
    · exact h.1
    · exact AllP.mem h.2 x hx
theorem AllP.app {α : Type} {P : α → Prop} : ∀ {l m : List α}, AllP P l → AllP P m → AllP P (l ++ m)
  | [], _, _, h => h
  | _ :: _, _, h, k => ⟨h.1, AllP.app h.2 k⟩
theorem ent_uniq {es : List Ent} (hn : (es.map (·.x)).Nodup) : ∀ e ∈ es, ∀ e' ∈ es, e.x = e'.x → e = e' := by
  induction es with
  | nil => intro e h; cases h
  | cons a es ih =>
    rw [List.map_cons, List.nodup_cons] at hn
    intro e he e' he' hx
    rcases List.mem_cons.mp he with h1 | h1 <;> rcases List.mem_cons.mp he' with h2 | h2
    · rw [h1, h2]
    · exact absurd (List.mem_map.mpr ⟨e', h2, by rw [← hx, h1]⟩) hn.1
    · exact absurd (List.mem_map.mpr ⟨e, h1, by rw [hx, h2]⟩) hn.1
    · exact ih hn.2 e h1 e' h2 hx
theorem hk_of {es : List Ent} {KW : List (Str × Nat × List Str)} (hn : (es.map (·.x)).Nodup) (h : AllP (fun p => ∃ e, e ∈ es ∧ e.x = p.1 ∧ KwP e.ps (defArgs e.st) p.2.1 p.2.2) KW) : ∀ e ∈ es, ∀ (n : Nat) (ks : List Str), (e.x, n, ks) ∈ KW → KwP e.ps (defArgs e.st) n ks := by
  intro e he n ks hm
  obtain ⟨e', h1, h2, h3⟩ := h.mem _ hm
  have := ent_uniq hn e he e' h1 h2.symm
  subst this
  exact h3
/-- the facts that a law's head reads -/
def faOf (es : List Ent) (G : List (Str × Gd)) : List He.Fa := es.map (fun e => .glo e.x) ++ (usedB.filter fun x => (G.lookup x).isNone).map .free
theorem fa_glo {es : List Ent} {G : List (Str × Gd)} : ∀ (g : Nat) (e : Ent), es[g]? = some e → He.Fa.glo e.x ∈ faOf es G := fun g e he => List.mem_append_left _ (List.mem_map.mpr ⟨e, List.mem_of_getElem? he, rfl⟩)
theorem fa_free {es : List Ent} {G : List (Str × Gd)} : ∀ x ∈ usedB, G.lookup x = none → He.Fa.free x ∈ faOf es G := fun x hx hn => List.mem_append_right _ (List.mem_map.mpr ⟨x, List.mem_filter.mpr ⟨hx, by rw [hn]; rfl⟩, rfl⟩)
/-- THE LAW'S WALK from its tables -/
theorem law_walk {l : PySem.W.OpenLaw} {q : Program} {loose : List Str} {XP : (Str → Option Value) → Heap → Prop} {d : DefRec} {G : List (Str × Gd)} {KW : List (Str × Nat × List Str)} {es : List Ent} {T : List Df} {k g : Nat} {e : Ent}
    (hn : l.most = some 63) (hdf : d.params.defaults = []) (hr : Room (k + 7) callerA) (he : es[g]? = some e) (hx : d.name = e.x) (hps : e.ps = [("script" : Str)]) (hbl : BindP e.ps (defArgs e.st))
    (M : ∀ {K : PySem.W.Frag} {h : Heap} {mg : Str → Option Value}, K.In h → h.Ns mainGlobals mg → He.SaysD (faOf es G) (es.map entD) K → ModOk K mg G KW es T) (L : LawT T k g) :
    PySem.W.WalkO q loose XP (He.hookD 4 (faOf es G) (es.map entD)).says l.row.toRowW d [] (fun f vs => PySem.call f vs) := by
  refine walkG (k := k + 7) (x := "script") hn hdf hr ?_
  intro w mg fa h Y G' hmg
  obtain ⟨K, KX, c⟩ := Y
  obtain ⟨fd, F⟩ := c.def_ g (d := entD e) (by rw [List.getElem?_map, he]; rfl)
  have hm := He.glo_ok KX G' (c.fact g (f := .glo e.x) (by
    unfold faOf
    rw [List.getElem?_append_left (by rw [List.length_map]; exact (List.getElem?_eq_some_iff.mp he).1), List.getElem?_map, he]; rfl))
  have efa : fa = He.fAd K (e.x, none) := by
    rw [hx] at hmg
    have := hmg.symm.trans hm
    cases this
    rfl
  subst efa
  refine ⟨K, fd, KX, fun s v => ?_, fun base hKb hnb => lawG (M hKb hnb c) he (He.glo_ok hKb hnb (c.fact g (f := .glo e.x) (by
    unfold faOf
    rw [List.getElem?_append_left (by rw [List.length_map]; exact (List.getElem?_eq_some_iff.mp he).1), List.getElem?_map, he]; rfl))) F hps L⟩
  obtain ⟨oc, od, dV, kV, doc, pm, an, cdv, ct, osl, rfl, lk, hcd, hD, hKw⟩ := F.ex
  rcases hD with ⟨_, rfl⟩ | ⟨e0, _⟩
  · have q := hbl e.x e.x (defBody e.st) (defScope e.st) kV doc pm an cdv ct [v] (by rw [hps]; rfl)
    rw [hps] at q
    exact BindsTo.of_eq q
  · exact absurd rfl e0
end HA

namespace HA
open PySem PySem.Spec PyProof.Rows L2

/-! ### the stream's two defs -/
def b_stream : Ss := (.cons (.ret (.lst (.cons (.bi .list (.cons (.var 0) .nil)) (.cons (.cst (.int 0)) (.cons (.cst (.int 0)) (.cons (.cst (.int 19)) .nil))))))
    .nil)
theorem intsT_inv : ∀ {ts : List Tr} {l : List Int}, intsT ts = some l → ts = l.map .int
  | [], l, e => by cases e; rfl
  | t :: ts, l, e => by
    unfold intsT at e
    split at e
    · rename_i z; cases z
    · rename_i i r z
      cases z
      split at e
      · rename_i l' el
        cases e
        rw [intsT_inv el]; rfl
      · cases e
    · cases e
theorem rds_ints {P : PP} {h : Hh} : ∀ {vs : List Va} {l : List Int}, Rds P h vs (l.map .int) → vs = l.map .int
  | _, [], .nil => rfl
  | _, i :: l, .cons a r => by cases a; rw [rds_ints r]; rfl
theorem stmOk_of {ns : List Int} {T : List Df} {dg sg k : Nat} (hT : T[sg]? = some ⟨1, 1, b_stream⟩) : StmOk ⟨ns, callN ns T (k + 1)⟩ ⟨ns, some sg, callB ns dg T (k + 1)⟩ := by
  intro g hg P h v t s r e
  cases hg
  show callN ns T (k + 1) sg [v] h = _
  have e0 : callN ns T (k + 1) sg [v] h = runDf ⟨ns, callN ns T k⟩ ⟨1, 1, b_stream⟩ [v] h := by
    show (match T[sg]? with
      | some d => runDf ⟨ns, callN ns T k⟩ d [v] h
      | none => .bad) = _
    rw [hT]
  rw [e0]
  have el : listV ns [v] h = alloc (.lst (s.rest.map .int)) h ∧ s.cur = 0 ∧ s.cnt = 0 ∧ s.mix = 19 := by
    unfold streamOf at e
    split at e
    · cases r; cases e; exact ⟨rfl, rfl, rfl, rfl⟩
    · obtain ⟨l, xs, rfl, q, r⟩ := r
      split at e
      · rename_i l' ei
        cases e
        refine ⟨?_, rfl, rfl, rfl⟩
        rw [intsT_inv ei] at r
        unfold listV
        simp only [q, rds_ints r]
      · cases e
    · cases e
  obtain ⟨e1, e2, e3, e4⟩ := el
  rw [e2, e3, e4]
  have key : ev ⟨ns, callN ns T k⟩ (.bi .list (.cons (.var 0) .nil)) [some v] h = alloc (.lst (s.rest.map .int)) h := e1
  show (match exs ⟨ns, callN ns T k⟩ b_stream [some v] h with
    | .rt v h1 => RE.ok v h1
    | .nx _ h1 => .ok .non h1
    | .exc c e _ h1 => .exc c e h1
    | _ => .bad) = _
  unfold b_stream
  simp only [exs, ex, ev, evs, RE.bind, ofE', RX.seq, List.getElem?_cons_zero]
  rw [show biF ns Bi.list [v] h = alloc (.lst (s.rest.map .int)) h from e1]
  simp only [alloc, RE.bind, List.length_cons, List.length_nil]
  simp
  rw [if_pos (by decide)]
end HA

namespace HA
open PySem PySem.Spec PyProof.Rows L2
/-- what a draw leaves alone -/
structure Kp (p : Nat × Nat) (h h' : Hh) : Prop where
  len : h.length ≤ h'.length
  keep : ∀ (l : Nat) (o : Ob), h[l]? = some o → ¬ isStr (some p) l → h'[l]? = some o
theorem Kp.refl {p : Nat × Nat} {h : Hh} : Kp p h h := ⟨Nat.le_refl _, fun _ _ e _ => e⟩
theorem Kp.trans {p : Nat × Nat} {a b c : Hh} (x : Kp p a b) (y : Kp p b c) : Kp p a c := ⟨Nat.le_trans x.len y.len, fun l o e n => y.keep l o (x.keep l o e n) n⟩
theorem Kp.set1 {p : Nat × Nat} {h : Hh} {o : Ob} : Kp p h (h.set p.1 o) := ⟨by rw [List.length_set]; exact Nat.le_refl _, fun l o' e n => by
  rw [List.getElem?_set_ne (fun z => n ⟨p, rfl, .inl z.symm⟩)]; exact e⟩
theorem Kp.set2 {p : Nat × Nat} {h : Hh} {o : Ob} : Kp p h (h.set p.2 o) := ⟨by rw [List.length_set]; exact Nat.le_refl _, fun l o' e n => by
  rw [List.getElem?_set_ne (fun z => n ⟨p, rfl, .inr z.symm⟩)]; exact e⟩
theorem Kp.app {p : Nat × Nat} {h os : Hh} : Kp p h (h ++ os) := ⟨by rw [List.length_append]; omega, fun l o e _ => get_app e⟩
theorem StrOk.app' {h : Hh} {p : Nat × Nat} {st : Strm} {os : Hh} (so : StrOk h (some p) st) : StrOk (h ++ os) (some p) st := fun q e => ⟨(so q e).1, get_app (so q e).2.1, get_app (so q e).2.2⟩
section
variable {C : Cf} {σ : Sl} {h : Hh} {p : Nat × Nat} {st : Strm}
theorem st_var (e : σ[0]? = some (some (.ref p.1))) : ev C (.var 0) σ h = .ok (.ref p.1) h := by unfold ev; rw [e]
theorem st_get (so : StrOk h (some p) st) (e : σ[0]? = some (some (.ref p.1))) : ev C (.idx (.var 0) (.cst (.int 0))) σ h = .ok (.ref p.2) h ∧ ev C (.idx (.var 0) (.cst (.int 1))) σ h = .ok (.int st.cur) h ∧
    ev C (.idx (.var 0) (.cst (.int 2))) σ h = .ok (.int st.cnt) h ∧ ev C (.idx (.var 0) (.cst (.int 3))) σ h = .ok (.int st.mix) h := by
  obtain ⟨_, q, _⟩ := so p rfl
  have go : ∀ i : Int, ev C (.idx (.var 0) (.cst (.int i))) σ h = idxV (.ref p.1) (.int i) h := fun i => by
    show (ev C (.var 0) σ h).bind _ = _
    rw [st_var e]
    rfl
  refine ⟨?_, ?_, ?_, ?_⟩ <;> (rw [go]; unfold idxV; simp only [q]; rfl)
theorem st_set {i : Int} {e : E} {x : Int} {h1 : Hh} {st' : Strm} (so : StrOk h1 (some p) st) (e0 : σ[0]? = some (some (.ref p.1))) (he : ev C e σ h = .ok (.int x) h1) (k : Kp p h h1)
    (hs : setV (.ref p.1) (.int i) (.int x) h1 = some (h1.set p.1 (.lst [.ref p.2, .int st'.cur, .int st'.cnt, .int st'.mix]))) (hr : st'.rest = st.rest) :
    ∃ h2, ex C (.set (.var 0) (.cst (.int i)) e) σ h = .nx σ h2 ∧ StrOk h2 (some p) st' ∧ Kp p h h2 := by
  obtain ⟨n, q1, q2⟩ := so p rfl
  have h1l := lt_of_get q1
  refine ⟨h1.set p.1 (.lst [.ref p.2, .int st'.cur, .int st'.cnt, .int st'.mix]), ?_, fun p' e => ?_, k.trans .set1⟩
  · show ofE' σ (ev C e σ h) _ = _
    rw [he]
    show ofE' σ (ev C (.var 0) σ h1) _ = _
    rw [st_var e0]
    show (match setV (.ref p.1) (.int i) (.int x) h1 with
      | some h4 => RX.nx σ h4
      | none => .bad) = _
    rw [hs]
  · cases e
    refine ⟨n, List.getElem?_set_self h1l, ?_⟩
    rw [List.getElem?_set_ne n, hr]
    exact q2
end

/-! ### the text of a draw -/
abbrev g0 (i : Int) : E := .idx (.var 0) (.cst (.int i))
def w_test : E := .and (.cmp .eq (g0 1) (.cst (.int 0))) (.cmp .ne (g0 0) (.lst .nil))
def w_body : Ss := (.cons (.asg (.nm 2) (.bi .abs (.cons (.mth .pop (g0 0) (.cons (.cst (.int 0)) .nil)) .nil)))
  (.cons (.set (.var 0) (.cst (.int 3)) (.bin .mod (.bi .int (.cons (.bin .add (.bin .add (.bin .mul (g0 3) (.cst (.int 6151))) (.var 2)) (.cst (.int 7))) .nil)) (.cst (.int 2147483629))))
  (.cons (.set (.var 0) (.cst (.int 1)) (.ife (.cmp (.ord .ge) (.var 2) (.bin .pow (.cst (.int 10)) (.cst (.int 18)))) (.var 2) (.cst (.int 0)))) .nil)))
section
variable {C : Cf} {σ : Sl} {h : Hh} {p : Nat × Nat} {st : Strm}
theorem sh_int (i : Int) : SeqAt.shaped (.int i) = true := by
  unfold SeqAt.shaped
  simp [PyData.canLay0, PyData.depth]
theorem sh_ints : ∀ l : List Int, PyData.canLayAll0 (l.map .int) = true ∧ PyData.depthAll (l.map .int) ≤ 1
  | [] => by simp [PyData.canLayAll0, PyData.depthAll]
  | i :: l => by
    have := sh_ints l
    simp only [List.map_cons, PyData.canLayAll0, PyData.depthAll, PyData.canLay0, PyData.depth, Bool.true_and]
    exact ⟨this.1, Nat.max_le.mpr ⟨by omega, this.2⟩⟩
theorem sh_lst (l : List Int) : SeqAt.shaped (.list (l.map .int)) = true := by
  unfold SeqAt.shaped
  have := sh_ints l
  simp only [PyData.canLay0, PyData.depth, this.1, Bool.true_and, decide_eq_true_eq]
  exact decide_eq_true (by omega)
theorem ev_bin {C : Cf} {σ : Sl} {h h1 h2 : Hh} {o : Bo} {a b : E} {x y : Va} (e1 : ev C a σ h = .ok x h1) (e2 : ev C b σ h1 = .ok y h2) : ev C (.bin o a b) σ h = binV o x y h2 := by
  show (ev C a σ h).bind _ = _
  rw [e1]
  show (ev C b σ h1).bind _ = _
  rw [e2]
  rfl
theorem ev_cmp {C : Cf} {σ : Sl} {h h1 h2 : Hh} {o : Co} {a b : E} {x y : Va} (e1 : ev C a σ h = .ok x h1) (e2 : ev C b σ h1 = .ok y h2) : ev C (.cmp o a b) σ h = cmpV o x y h2 := by
  show (ev C a σ h).bind _ = _
  rw [e1]
  show (ev C b σ h1).bind _ = _
  rw [e2]
  rfl
theorem ev_int1 {C : Cf} {σ : Sl} {h h1 : Hh} {a : E} {i : Int} (e1 : ev C a σ h = .ok (.int i) h1) : ev C (.bi .int (.cons a .nil)) σ h = .ok (.int i) h1 := by
  show ((ev C a σ h).bind _).bind _ = _
  rw [e1]
  rfl
theorem mul_l {i j : Int} {h : Hh} (hi : -B64 < i ∧ i < B64) : binV .mul (.int i) (.int j) h = .ok (.int (i * j)) h := by
  show mulV (.int i) (.int j) h = _
  unfold mulV
  exact if_pos (.inl hi)
theorem mul_r {i j : Int} {h : Hh} (hi : -B64 < j ∧ j < B64) : binV .mul (.int i) (.int j) h = .ok (.int (i * j)) h := by
  show mulV (.int i) (.int j) h = _
  unfold mulV
  exact if_pos (.inr hi)
theorem mod_ok {i j : Int} {h : Hh} (hj : 0 < j) : binV .mod (.int i) (.int j) h = .ok (.int (i % j)) h := by
  show modV (.int i) (.int j) h = _
  unfold modV
  exact if_pos hj
theorem pow_ok {i : Int} {j : Nat} {h : Hh} (hi : i.natAbs < 18446744073709551616) (hj : j ≤ 1000000) : binV .pow (.int i) (.int j) h = .ok (.int (i ^ j)) h := by
  show powV (.int i) (.int j) h = _
  unfold powV
  exact if_pos ⟨by omega, by omega, hi⟩
theorem datL_ints (n : Nat) (h : Hh) : ∀ l : List Int, datL (dat n h) (l.map .int) = some (l.map .int)
  | [] => rfl
  | i :: l => by
    have e : dat n h (.int i) = some (.int i) := by cases n <;> rfl
    simp only [List.map_cons, datL, e, datL_ints n h l]
theorem dat_lst {l : Nat} {xs : List Int} (e : h[l]? = some (.lst (xs.map .int))) : dat DD h (.ref l) = some (.list (xs.map .int)) := by
  show dat (39 + 1) h (.ref l) = _
  unfold dat
  simp only [e, datL_ints]
theorem eqD_ii (i j : Int) : eqD false (.int i) (.int j) h = .ok (.bl (i == j)) h := by
  have e : ∀ i, dat DD h (.int i) = some (.int i) := fun _ => rfl
  unfold eqD
  simp only [e, sh_int, and_self, if_true, PyData.eqv, Bool.false_bne, Bool.false_xor]
theorem w_test_ok (so : StrOk h (some p) st) (e : σ[0]? = some (some (.ref p.1))) : ∃ h1, tst (ev C w_test σ h) = .ok (decide (st.cur = 0 ∧ st.rest ≠ [])) h1 ∧ StrOk h1 (some p) st ∧ Kp p h h1 := by
  obtain ⟨a1, a2, a3, a4⟩ := st_get (C := C) so e
  have e1 : ev C (.cmp .eq (g0 1) (.cst (.int 0))) σ h = .ok (.bl (st.cur == 0)) h := by
    show (ev C (g0 1) σ h).bind _ = _
    rw [a2]
    show eqD false (.int st.cur) (.int 0) h = _
    rw [eqD_ii]
  have e2 : ev C w_test σ h = (match truV (.bl (st.cur == 0)) h with
      | some true => ev C (.cmp .ne (g0 0) (.lst .nil)) σ h
      | some false => .ok (.bl (st.cur == 0)) h
      | none => .bad) := by
    show (ev C (.cmp .eq (g0 1) (.cst (.int 0))) σ h).bind _ = _
    rw [e1]
    rfl
  by_cases hc : st.cur = 0
  · have hb : (st.cur == 0) = true := by rw [hc]; rfl
    have e3 : ev C (.cmp .ne (g0 0) (.lst .nil)) σ h = .ok (.bl (decide (st.rest ≠ []))) (h ++ [.lst []]) := by
      show (ev C (g0 0) σ h).bind _ = _
      rw [a1]
      show eqD true (.ref p.2) (.ref h.length) (h ++ [.lst []]) = _
      obtain ⟨_, _, q2⟩ := so p rfl
      unfold eqD
      rw [dat_lst (get_app q2), dat_lst (l := h.length) (xs := []) (by simp)]
      simp only [sh_lst]
      rw [if_pos ⟨trivial, trivial⟩]
      cases st.rest with
      | nil => rfl
      | cons x r => rfl
    refine ⟨h ++ [.lst []], ?_, so.app', .app⟩
    rw [e2, hb]
    show tst (ev C (.cmp .ne (g0 0) (.lst .nil)) σ h) = _
    rw [e3]
    show RE.ok (decide (st.rest ≠ [])) _ = _
    simp [hc]
  · have hb : (st.cur == 0) = false := by simpa using hc
    refine ⟨h, ?_, so, .refl⟩
    rw [e2, hb]
    show RE.ok false h = _
    simp [hc]
end
section
variable {C : Cf} {h : Hh} {p : Nat × Nat} {st : Strm}
theorem st_put (so : StrOk h (some p) st) (x : Int) : setV (.ref p.1) (.int 1) (.int x) h = some (h.set p.1 (.lst [.ref p.2, .int x, .int st.cnt, .int st.mix])) ∧
    setV (.ref p.1) (.int 2) (.int x) h = some (h.set p.1 (.lst [.ref p.2, .int st.cur, .int x, .int st.mix])) ∧ setV (.ref p.1) (.int 3) (.int x) h = some (h.set p.1 (.lst [.ref p.2, .int st.cur, .int st.cnt, .int x])) := by
  obtain ⟨_, q, _⟩ := so p rfl
  refine ⟨?_, ?_, ?_⟩ <;> (unfold setV; simp only [q]; rfl)
/-- a number is taken out -/
theorem st_pop {x : Int} {r : List Int} {a b c : Int} {σ : Sl} (so : StrOk h (some p) ⟨x :: r, a, b, c⟩) (e : σ[0]? = some (some (.ref p.1))) (hr : r.length ≤ 64) :
    ev C (.bi .abs (.cons (.mth .pop (g0 0) (.cons (.cst (.int 0)) .nil)) .nil)) σ h = .ok (.int (if x < 0 then -x else x)) (h.set p.2 (.lst (r.map .int))) := by
  obtain ⟨n, q1, q2⟩ := so p rfl
  have q2 : h[p.2]? = some (.lst (.int x :: r.map .int)) := q2
  have e1 : ev C (.mth .pop (g0 0) (.cons (.cst (.int 0)) .nil)) σ h = .ok (.int x) (h.set p.2 (.lst (r.map .int))) := by
    show (ev C (g0 0) σ h).bind _ = _
    rw [(st_get so e).1]
    show (match kdOf (.ref p.2) h with
      | some k => if mtOk .pop k = true then (evs C (.cons (.cst (.int 0)) .nil) σ h).bind fun vs h2 => mtK .pop k (.ref p.2) vs h2 else .bad
      | none => .bad) = _
    rw [show kdOf (.ref p.2) h = some .l by unfold kdOf; simp only [q2]]
    show popV (.ref p.2) [.int 0] h = _
    unfold popV
    simp only [q2]
    rw [if_pos (by decide), show seqIndex? 0 (Va.int x :: r.map Va.int).length = some 0 by
      unfold seqIndex?
      simp]
    rfl
  show (evs C (.cons (.mth .pop (g0 0) (.cons (.cst (.int 0)) .nil)) .nil) σ h).bind _ = _
  show (((ev C (.mth .pop (g0 0) (.cons (.cst (.int 0)) .nil)) σ h).bind _).bind _) = _
  rw [e1]
  rfl
theorem st_pop_ok {x : Int} {r : List Int} {a b c : Int} (so : StrOk h (some p) ⟨x :: r, a, b, c⟩) : StrOk (h.set p.2 (.lst (r.map .int))) (some p) ⟨r, a, b, c⟩ := fun q e => by
  cases e
  obtain ⟨n, q1, q2⟩ := so p rfl
  refine ⟨n, ?_, List.getElem?_set_self (lt_of_get q2)⟩
  rw [List.getElem?_set_ne (fun z => n z.symm)]
  exact q1
theorem ordge (a b : Int) : ordV .ge (.int a) (.int b) h = .ok (.bl (decide (a ≥ b))) h := by
  first | rfl | (unfold ordV; simp [ordI])
end

abbrev ab (x : Int) : Int := if x < 0 then -x else x
abbrev cell (x : Int) : Int := if ab x ≥ 1000000000000000000 then ab x else 0
section
variable {C : Cf} {h : Hh} {p : Nat × Nat} {st : Strm}
theorem seq_nx {C : Cf} {s : Sm} {r : Ss} {σ σ1 : Sl} {h h1 : Hh} (e : ex C s σ h = .nx σ1 h1) : exs C (.cons s r) σ h = exs C r σ1 h1 := by
  show (ex C s σ h).seq (exs C r) = _
  rw [e]
  rfl
theorem w_turn {x : Int} {r : List Int} {a b c : Int} {σ : Sl} (so : StrOk h (some p) ⟨x :: r, a, b, c⟩) (e : σ[0]? = some (some (.ref p.1))) (l : 2 < σ.length) (hr : r.length ≤ 64) :
    ∃ h', exs C w_body σ h = .nx (σ.set 2 (some (.int (ab x)))) h' ∧ StrOk h' (some p) ⟨r, cell x, b, (c * 6151 + ab x + 7) % 2147483629⟩ ∧ Kp p h h' := by
  have so1 := st_pop_ok so
  have e' : (σ.set 2 (some (.int (ab x))))[0]? = some (some (.ref p.1)) := by rw [List.getElem?_set_ne (by decide)]; exact e
  have v2 : ∀ h, ev C (.var 2) (σ.set 2 (some (.int (ab x)))) h = .ok (.int (ab x)) h := fun h => by
    unfold ev
    rw [List.getElem?_set_self l]
  have s1 : ex C (.asg (.nm 2) (.bi .abs (.cons (.mth .pop (g0 0) (.cons (.cst (.int 0)) .nil)) .nil))) σ h = .nx (σ.set 2 (some (.int (ab x)))) (h.set p.2 (.lst (r.map .int))) := by
    show ofE' σ (ev C _ σ h) _ = _
    rw [st_pop so e hr]
    rfl
  have m1 : ev C (.bin .mod (.bi .int (.cons (.bin .add (.bin .add (.bin .mul (g0 3) (.cst (.int 6151))) (.var 2)) (.cst (.int 7))) .nil)) (.cst (.int 2147483629))) (σ.set 2 (some (.int (ab x)))) (h.set p.2 (.lst (r.map .int))) = .ok (.int ((c * 6151 + ab x + 7) % 2147483629)) (h.set p.2 (.lst (r.map .int))) := by
    have e1 : ev C (.bin .mul (g0 3) (.cst (.int 6151))) (σ.set 2 (some (.int (ab x)))) (h.set p.2 (.lst (r.map .int))) = .ok (.int (c * 6151)) (h.set p.2 (.lst (r.map .int))) := by
      show (ev C (g0 3) _ _).bind _ = _
      rw [(st_get so1 e').2.2.2]
      show mulV (.int c) (.int 6151) _ = _
      unfold mulV
      exact if_pos (.inr (by decide))
    rw [ev_bin (ev_int1 (ev_bin (ev_bin e1 (v2 _) |>.trans rfl) rfl |>.trans rfl)) rfl]
    exact mod_ok (by decide)
  obtain ⟨h2, s2, so2, k2⟩ := st_set (i := 3) (st' := ⟨r, a, b, (c * 6151 + ab x + 7) % 2147483629⟩) so1 e' m1 .refl (st_put so1 _).2.2 rfl
  have m2 : ev C (.ife (.cmp (.ord .ge) (.var 2) (.bin .pow (.cst (.int 10)) (.cst (.int 18)))) (.var 2) (.cst (.int 0))) (σ.set 2 (some (.int (ab x)))) h2 = .ok (.int (cell x)) h2 := by
    have e1 : ev C (.bin .pow (.cst (.int 10)) (.cst (.int 18))) (σ.set 2 (some (.int (ab x)))) h2 = .ok (.int 1000000000000000000) h2 := by
      rw [ev_bin rfl rfl]
      exact pow_ok (j := 18) (by decide) (by decide)
    have e2 : tst (ev C (.cmp (.ord .ge) (.var 2) (.bin .pow (.cst (.int 10)) (.cst (.int 18)))) (σ.set 2 (some (.int (ab x)))) h2) = .ok (decide (ab x ≥ 1000000000000000000)) h2 := by
      rw [ev_cmp (v2 _) e1]
      rfl
    show (tst (ev C _ _ _)).bind _ = _
    rw [e2]
    show (if decide (ab x ≥ 1000000000000000000) = true then ev C (.var 2) _ _ else ev C (.cst (.int 0)) _ _) = _
    rw [v2]
    by_cases z : ab x ≥ 1000000000000000000
    · rw [if_pos (by simpa using z)]; unfold cell; rw [if_pos z]
    · rw [if_neg (by simpa using z)]; unfold cell; rw [if_neg z]; rfl
  obtain ⟨h3, s3, so3, k3⟩ := st_set (i := 1) (st' := ⟨r, cell x, b, (c * 6151 + ab x + 7) % 2147483629⟩) so2 e' m2 .refl (st_put so2 _).1 rfl
  refine ⟨h3, ?_, so3, (Kp.set2.trans k2).trans k3⟩
  unfold w_body
  rw [seq_nx s1, seq_nx s2, seq_nx s3]
  rfl
theorem w_loop {p : Nat × Nat} {b : Int} : ∀ (r : List Int) (a c : Int) (n : Nat) (σ : Sl) (h : Hh), r.length ≤ 64 → r.length < n → σ[0]? = some (some (.ref p.1)) → 2 < σ.length → StrOk h (some p) ⟨r, a, b, c⟩ →
    ∃ σ' h', whlGo (fun σ h => tst (ev C w_test σ h)) (exs C w_body) n σ h = .nx σ' h' ∧ σ'[0]? = σ[0]? ∧ σ'[1]? = σ[1]? ∧ σ'.length = σ.length ∧ StrOk h' (some p) ⟨(feed r a c).1, (feed r a c).2.1, b, (feed r a c).2.2⟩ ∧ Kp p h h' := by
  intro r
  induction r with
  | nil =>
    intro a c n σ h hr hn e l so
    cases n with
    | zero => omega
    | succ n =>
      obtain ⟨h1, t1, so1, k1⟩ := w_test_ok (C := C) so e
      refine ⟨σ, h1, ?_, rfl, rfl, rfl, so1, k1⟩
      show ofE' σ (tst (ev C w_test σ h)) _ = _
      rw [t1]
      have : decide (a = 0 ∧ ([] : List Int) ≠ []) = false := by simp
      show (if decide (a = 0 ∧ ([] : List Int) ≠ []) = true then _ else _) = _
      rw [this, if_neg (by decide)]
  | cons x r ih =>
    intro a c n σ h hr hn e l so
    cases n with
    | zero => omega
    | succ n =>
      obtain ⟨h1, t1, so1, k1⟩ := w_test_ok (C := C) so e
      by_cases ha : a = 0
      · obtain ⟨h2, t2, so2, k2⟩ := w_turn (C := C) so1 e l (by rw [List.length_cons] at hr; omega)
        have e2 : (σ.set 2 (some (.int (ab x))))[0]? = some (some (.ref p.1)) := by rw [List.getElem?_set_ne (by decide)]; exact e
        obtain ⟨σ3, h3, t3, f0, f1, fl, so3, k3⟩ := ih (cell x) ((c * 6151 + ab x + 7) % 2147483629) n _ h2 (by rw [List.length_cons] at hr; omega) (by rw [List.length_cons] at hn; omega) e2 (by rw [List.length_set]; exact l) so2
        refine ⟨σ3, h3, ?_, by rw [f0, e2, e], by rw [f1, List.getElem?_set_ne (by decide)], by rw [fl, List.length_set], ?_, (k1.trans k2).trans k3⟩
        · show ofE' σ (tst (ev C w_test σ h)) _ = _
          rw [t1]
          show (if decide (a = 0 ∧ (x :: r) ≠ []) = true then turn (exs C w_body σ h1) (whlGo (fun σ h => tst (ev C w_test σ h)) (exs C w_body) n) else _) = _
          rw [if_pos (by simp [ha]), t2]
          exact t3
        · have : feed (x :: r) a c = feed r (cell x) ((c * 6151 + ab x + 7) % 2147483629) := by
            show (if a = 0 then _ else _) = _
            rw [if_pos ha]
          rw [this]
          exact so3
      · refine ⟨σ, h1, ?_, rfl, rfl, rfl, ?_, k1⟩
        · show ofE' σ (tst (ev C w_test σ h)) _ = _
          rw [t1]
          show (if decide (a = 0 ∧ (x :: r) ≠ []) = true then _ else _) = _
          rw [if_neg (by simp [ha])]
        · have : feed (x :: r) a c = (x :: r, a, c) := by
            show (if a = 0 then _ else _) = _
            rw [if_neg ha]
          rw [this]
          exact so1
end
/-! ### the draw -/
theorem feed_mix : ∀ (r : List Int) (a c : Int), 0 ≤ c → c < 2147483648 → 0 ≤ (feed r a c).2.2 ∧ (feed r a c).2.2 < 2147483648
  | [], a, c, h1, h2 => ⟨h1, h2⟩
  | x :: r, a, c, h1, h2 => by
    unfold feed
    split
    · exact feed_mix r _ _ (Int.emod_nonneg _ (by decide)) (by have := Int.emod_lt_of_pos (c * 6151 + (if x < 0 then -x else x) + 7) (show (0 : Int) < 2147483629 by decide); omega)
    · exact ⟨h1, h2⟩
def e_mix : E := .bin .mod (.bi .int (.cons (.bin .pow (.bin .add (.bin .add (g0 3) (.bin .mul (.cst (.int 8191)) (g0 2))) (.cst (.int 50021))) (.cst (.int 5))) .nil)) (.cst (.int 2147483587))
def e_end : E := .bin .mod (.bin .mod (.bi .int (.cons (.bin .pow (.bin .add (.bin .add (.bin .mul (.var 4) (.cst (.int 40009))) (.bin .mul (.cst (.int 20011)) (g0 2))) (.cst (.int 31))) (.cst (.int 3))) .nil)) (.cst (.int 1000000009))) (.var 1)
def b_draw : Ss := (.cons (.set (.var 0) (.cst (.int 2)) (.bin .add (g0 2) (.cst (.int 1))))
  (.cons (.whl w_test w_body)
  (.cons (.ife (.cmp (.ord .gt) (g0 1) (.cst (.int 0)))
      (.cons (.asg (.nm 3) (.bin .mod (.bi .int (.cons (g0 1) .nil)) (.var 1)))
      (.cons (.set (.var 0) (.cst (.int 1)) (.bin .fdiv (g0 1) (.var 1)))
      (.cons (.ret (.var 3)) .nil))) .nil)
  (.cons (.asg (.nm 4) e_mix)
  (.cons (.ret e_end) .nil)))))
theorem ife_go {C : Cf} {c : E} {a b r : Ss} {σ : Sl} {h h1 : Hh} {k : Bool} (e : tst (ev C c σ h) = .ok k h1) : exs C (.cons (.ife c a b) r) σ h = (if k = true then exs C a σ h1 else exs C b σ h1).seq (exs C r) := by
  show (ofE' σ (tst (ev C c σ h)) _).seq _ = _
  rw [e]
  rfl
theorem drawOk_of {T : List Df} {dg : Nat} (hT : T[dg]? = some ⟨5, 2, b_draw⟩) (ns : List Int) : DrawOk ns T dg := by
  intro k h p st st' m i so e
  unfold drawS at e
  split at e
  rotate_left
  · cases e
  rename_i gd
  obtain ⟨m01, c0, c1, x0, x1, rl⟩ := gd
  have m01 := pin_iff.mp m01
  have m0 : 0 < m := m01.1
  have m1 : m < 1073741824 := by omega
  have e0 : callN ns T (k + 1) dg [.ref p.1, .int m] h = runDf ⟨ns, callN ns T k⟩ ⟨5, 2, b_draw⟩ [.ref p.1, .int m] h := by
    show (match T[dg]? with
      | some d => runDf ⟨ns, callN ns T k⟩ d _ h
      | none => .bad) = _
    rw [hT]
  rw [e0]
  generalize (⟨ns, callN ns T k⟩ : Cf) = C
  suffices z : ∃ h', exs C b_draw [some (.ref p.1), some (.int m), none, none, none] h = .rt (.int i) h' ∧ Kp p h h' ∧ StrOk h' (some p) st' by
    obtain ⟨h', z1, z2, z3⟩ := z
    refine ⟨h', ?_, z2.len, z2.keep, z3⟩
    show (match exs C b_draw [some (.ref p.1), some (.int m), none, none, none] h with
      | .rt v h1 => RE.ok v h1
      | .nx _ h1 => .ok .non h1
      | .exc c e _ h1 => .exc c e h1
      | _ => .bad) = _
    rw [z1]
  generalize hσ : ([some (.ref p.1), some (.int m), none, none, none] : Sl) = σ
  have v0 : σ[0]? = some (some (.ref p.1)) := by rw [← hσ]; rfl
  have v1 : σ[1]? = some (some (.int m)) := by rw [← hσ]; rfl
  have vl : σ.length = 5 := by rw [← hσ]; rfl
  have q1 : ev C (.bin .add (g0 2) (.cst (.int 1))) σ h = .ok (.int (st.cnt + 1)) h := by
    show (ev C (g0 2) σ h).bind _ = _
    rw [(st_get so v0).2.2.1]
    rfl
  obtain ⟨h1, s1, so1, k1⟩ := st_set (i := 2) (st' := ⟨st.rest, st.cur, st.cnt + 1, st.mix⟩) so v0 q1 .refl (st_put so _).2.1 rfl
  obtain ⟨σ2, h2, s2, f0, f1, fl, so2, k2⟩ := w_loop (C := C) (b := st.cnt + 1) st.rest st.cur st.mix WN σ h1 rl (by show _ < 1000000; omega) v0 (by omega) so1
  have s2 : ex C (.whl w_test w_body) σ h1 = .nx σ2 h2 := s2
  rw [v0] at f0
  rw [v1] at f1
  have fm := feed_mix st.rest st.cur st.mix x0 x1
  dsimp only at e
  revert so2 fm e
  generalize feed st.rest st.cur st.mix = f
  intro e so2 fm
  obtain ⟨r2, a2, c2⟩ := f
  dsimp only at so2 fm e
  obtain ⟨b0, b1, b2, b3⟩ := st_get (C := C) so2 f0
  have c1 : st.cnt < 1000000000000 := c1
  dsimp only at b0 b1 b2 b3
  have w1 : ∀ h, ev C (.var 1) σ2 h = .ok (.int m) h := fun h => by unfold ev; rw [f1]
  have t3 : tst (ev C (.cmp (.ord .gt) (g0 1) (.cst (.int 0))) σ2 h2) = .ok (decide (0 < a2)) h2 := by
    show tst ((ev C (g0 1) σ2 h2).bind _) = _
    rw [b1]
    rfl
  unfold b_draw
  rw [seq_nx s1, seq_nx s2, ife_go t3]
  by_cases ha : 0 < a2
  · rw [if_pos ha] at e
    cases e
    rw [if_pos (by simpa using ha)]
    have g1 : ex C (.asg (.nm 3) (.bin .mod (.bi .int (.cons (g0 1) .nil)) (.var 1))) σ2 h2 = .nx (σ2.set 3 (some (.int (a2 % m)))) h2 := by
      show ofE' σ2 (ev C _ σ2 h2) _ = _
      rw [ev_bin (ev_int1 b1) (w1 _), mod_ok m0]
      rfl
    have f03 : (σ2.set 3 (some (.int (a2 % m))))[0]? = some (some (.ref p.1)) := by rw [List.getElem?_set_ne (by decide)]; exact f0
    have g2 : ev C (.bin .fdiv (g0 1) (.var 1)) (σ2.set 3 (some (.int (a2 % m)))) h2 = .ok (.int (a2 / m)) h2 := by
      show (ev C (g0 1) _ h2).bind _ = _
      rw [(st_get so2 f03).2.1]
      show (ev C (.var 1) _ h2).bind _ = _
      rw [show ev C (.var 1) (σ2.set 3 (some (.int (a2 % m)))) h2 = .ok (.int m) h2 by
        unfold ev
        rw [List.getElem?_set_ne (by decide), f1]]
      show fdivV (.int a2) (.int m) h2 = _
      unfold fdivV
      exact if_pos ⟨m0, m1⟩
    obtain ⟨h4, s4, so4, k4⟩ := st_set (i := 1) (st' := ⟨r2, a2 / m, st.cnt + 1, c2⟩) so2 f03 g2 .refl (st_put so2 _).1 rfl
    refine ⟨h4, ?_, (k1.trans k2).trans k4, so4⟩
    rw [seq_nx g1, seq_nx s4]
    have : ev C (.var 3) (σ2.set 3 (some (.int (a2 % m)))) h4 = .ok (.int (a2 % m)) h4 := by
      unfold ev
      rw [List.getElem?_set_self (by omega)]
    show ((ofE' _ (ev C (.var 3) _ h4) _).seq _).seq _ = _
    rw [this]
    rfl
  · rw [if_neg ha] at e
    cases e
    rw [if_neg (by simpa using ha)]
    obtain ⟨fm1, fm2⟩ := fm
    have g1 : ev C e_mix σ2 h2 = .ok (.int ((c2 + 8191 * (st.cnt + 1) + 50021) ^ 5 % 2147483587)) h2 := by
      unfold e_mix
      rw [ev_bin (ev_int1 (ev_bin (ev_bin (ev_bin b3 (ev_bin rfl b2 |>.trans (mul_l (by decide))) |>.trans rfl) rfl |>.trans rfl) rfl |>.trans (pow_ok (j := 5) (by omega) (by decide)))) rfl]
      exact mod_ok (by decide)
    generalize hz : (c2 + 8191 * (st.cnt + 1) + 50021) ^ 5 % 2147483587 = z at g1 ⊢
    have z1 : 0 ≤ z ∧ z < 2147483587 := by
      rw [← hz]
      exact ⟨Int.emod_nonneg _ (by decide), Int.emod_lt_of_pos _ (by decide)⟩
    have s4 : ex C (.asg (.nm 4) e_mix) σ2 h2 = .nx (σ2.set 4 (some (.int z))) h2 := by
      show ofE' σ2 (ev C e_mix σ2 h2) _ = _
      rw [g1]
      rfl
    have f04 : (σ2.set 4 (some (.int z)))[0]? = some (some (.ref p.1)) := by rw [List.getElem?_set_ne (by decide)]; exact f0
    obtain ⟨d0, d1, d2, d3⟩ := st_get (C := C) so2 f04
    dsimp only at d2
    have v4 : ev C (.var 4) (σ2.set 4 (some (.int z))) h2 = .ok (.int z) h2 := by
      unfold ev
      rw [List.getElem?_set_self (by omega)]
    have w4 : ev C (.var 1) (σ2.set 4 (some (.int z))) h2 = .ok (.int m) h2 := by
      unfold ev
      rw [List.getElem?_set_ne (by decide), f1]
    have g5 : ev C e_end (σ2.set 4 (some (.int z))) h2 = .ok (.int ((z * 40009 + 20011 * (st.cnt + 1) + 31) ^ 3 % 1000000009 % m)) h2 := by
      unfold e_end
      rw [ev_bin (ev_bin (ev_int1 (ev_bin (ev_bin (ev_bin (ev_bin v4 rfl |>.trans (mul_r (by decide))) (ev_bin rfl d2 |>.trans (mul_l (by decide))) |>.trans rfl) rfl |>.trans rfl) rfl |>.trans (pow_ok (j := 3) (by omega) (by decide)))) rfl |>.trans (mod_ok (by decide))) w4]
      exact mod_ok m0
    refine ⟨h2, ?_, k1.trans k2, so2⟩
    show (RX.nx σ2 h2).seq _ = _
    show exs C _ σ2 h2 = _
    rw [seq_nx s4]
    show (ofE' _ (ev C e_end _ h2) _).seq _ = _
    rw [g5]
    rfl
end HA

namespace HA
open PySem PySem.Spec PyProof.Rows L2

/-! ### what is told is spoilt -/
abbrev late : Str := PySem.Str.ofString "late"
def b_spoilt (g : Nat) : Ss := (.cons (.ife (.inst (.var 0) [.dict]) (.cons (.for_ (.val (.bi .list (.cons (.var 0) .nil))) (.nm 1) (.cons (.exp (.call g (.cons (.idx (.var 0) (.var 1)) .nil))) .nil))
    (.cons (.set (.var 0) (.cst (.str late)) (.cst (.int 1))) .nil)) .nil)
  (.cons (.ife (.inst (.var 0) [.list, .tuple]) (.cons (.for_ (.val (.var 0)) (.nm 2) (.cons (.exp (.call g (.cons (.var 2) .nil))) .nil)) .nil) .nil)
  (.cons (.ife (.inst (.var 0) [.list]) (.cons (.exp (.mth .append (.var 0) (.cons (.cst (.str late)) .nil))) .nil) .nil) .nil)))
/-! measures: no dict in it; its depth; its lists; the longest -/
mutual
def okT : Tr → Bool
  | .lst ts => okTs ts
  | .tup ts => okTs ts
  | .dK _ => false
  | .dT _ => false
  | .scr => false
  | _ => true
def okTs : List Tr → Bool
  | [] => true
  | t :: ts => okT t && okTs ts
end
mutual
def depT : Tr → Nat
  | .lst ts => depTs ts + 1
  | .tup ts => depTs ts + 1
  | _ => 0
def depTs : List Tr → Nat
  | [] => 0
  | t :: ts => max (depT t) (depTs ts)
end
mutual
def wT : Tr → Nat
  | .lst ts => wTs ts + 1
  | .tup ts => wTs ts
  | _ => 0
def wTs : List Tr → Nat
  | [] => 0
  | t :: ts => wT t + wTs ts
end
mutual
def mxT : Tr → Nat
  | .lst ts => max ts.length (mxTs ts)
  | .tup ts => max ts.length (mxTs ts)
  | _ => 0
def mxTs : List Tr → Nat
  | [] => 0
  | t :: ts => max (mxT t) (mxTs ts)
end
/-! the reading of a value is one -/
mutual
theorem rd_one {P Q : PP} {h : Hh} : ∀ {v : Va} {t u : Tr}, okT t = true → Rd' P h v t → Rd' Q h v u → u = t
  | _, _, _, _, .non, .non => rfl
  | _, _, _, _, .bl _, .bl _ => rfl
  | _, _, _, _, .int _, .int _ => rfl
  | _, _, _, _, .str _, .str _ => rfl
  | _, _, _, _, .scr, .scr => rfl
  | _, _, _, k, .lst p q r, .lst p2 q2 r2 => by
    rw [q] at q2
    cases q2
    rw [rds_one k r r2]
  | _, _, _, k, .tup p q r, .tup p2 q2 r2 => by
    rw [q] at q2
    cases q2
    rw [rds_one k r r2]
  | _, _, _, k, .lst p q r, .tup p2 q2 r2 => by rw [q] at q2; cases q2
  | _, _, _, k, .lst p q r, .dK p2 q2 e2 r2 => by rw [q] at q2; cases q2
  | _, _, _, k, .lst p q r, .dT p2 q2 e2 r2 => by rw [q] at q2; cases q2
  | _, _, _, k, .tup p q r, .lst p2 q2 r2 => by rw [q] at q2; cases q2
  | _, _, _, k, .tup p q r, .dK p2 q2 e2 r2 => by rw [q] at q2; cases q2
  | _, _, _, k, .tup p q r, .dT p2 q2 e2 r2 => by rw [q] at q2; cases q2
  | _, _, _, k, .dK p q e r, _ => by cases k
  | _, _, _, k, .dT p q e r, _ => by cases k
theorem rds_one {P Q : PP} {h : Hh} : ∀ {v : List Va} {t u : List Tr}, okTs t = true → Rds P h v t → Rds Q h v u → u = t
  | _, _, _, _, .nil, .nil => rfl
  | _, _, _, k, .cons a r, .cons a2 r2 => by
    have k : (okT _ && okTs _) = true := k
    rw [Bool.and_eq_true] at k
    rw [rd_one k.1 a a2, rds_one k.2 r r2]
end
section
variable (P : PP) (h0 : Hh)
/-- the heap as it was, but for lists that are longer by some late ones -/
def Gs (c : Nat) (h : Hh) : Prop := h.length = h0.length ∧ ∀ (l : Nat) (o : Ob), h0[l]? = some o → h[l]? = some o ∨ ∃ xs j, o = .lst xs ∧ P l true ∧ j ≤ c ∧ h[l]? = some (.lst (xs ++ List.replicate j (.str late)))
def Chg (d : Nat) (h h' : Hh) : Prop := ∀ l : Nat, h'[l]? = h[l]? ∨ ∃ u, Rd' P h0 (.ref l) u ∧ okT u = true ∧ depT u ≤ d
end
section
variable {P : PP} {h0 : Hh}
theorem Gs.up {c c' : Nat} {h : Hh} (g : Gs P h0 c h) (w : c ≤ c') : Gs P h0 c' h := ⟨g.1, fun l o e => (g.2 l o e).imp id fun ⟨xs, j, a, b, k, d⟩ => ⟨xs, j, a, b, by omega, d⟩⟩
theorem Chg.refl {d : Nat} {h : Hh} : Chg P h0 d h h := fun _ => .inl rfl
theorem Chg.trans {d d1 d2 : Nat} {h h1 h2 : Hh} (a : Chg P h0 d1 h h1) (b : Chg P h0 d2 h1 h2) (w1 : d1 ≤ d) (w2 : d2 ≤ d) : Chg P h0 d h h2 := fun l => by
  rcases b l with z | ⟨u, r, k, q⟩
  · rcases a l with y | ⟨u, r, k, q⟩
    · exact .inl (z.trans y)
    · exact .inr ⟨u, r, k, by omega⟩
  · exact .inr ⟨u, r, k, by omega⟩
/-- what is deeper stands -/
theorem Chg.stay {d l : Nat} {h h' : Hh} {t : Tr} (a : Chg P h0 d h h') (r : Rd' P h0 (.ref l) t) (k : okT t = true) (w : d < depT t) : h'[l]? = h[l]? := by
  rcases a l with z | ⟨u, r2, k2, q⟩
  · exact z
  · have := rd_one k r r2
    subst this
    omega
end
theorem Rds.lates {P : PP} {h : Hh} : ∀ j : Nat, Rds P h (List.replicate j (.str late)) (List.replicate j (.str late))
  | 0 => .nil
  | j + 1 => .cons (.str _) (Rds.lates j)
theorem okTs_app : ∀ (a b : List Tr), okTs (a ++ b) = (okTs a && okTs b)
  | [], b => rfl
  | x :: a, b => by
    show (okT x && okTs (a ++ b)) = ((okT x && okTs a) && okTs b)
    rw [okTs_app a b, Bool.and_assoc]
theorem depTs_app : ∀ (a b : List Tr), depTs (a ++ b) = max (depTs a) (depTs b)
  | [], b => (Nat.zero_max _).symm
  | x :: a, b => by
    show max (depT x) (depTs (a ++ b)) = max (max (depT x) (depTs a)) (depTs b)
    rw [depTs_app a b, Nat.max_assoc]
theorem wTs_app : ∀ (a b : List Tr), wTs (a ++ b) = wTs a + wTs b
  | [], b => (Nat.zero_add _).symm
  | x :: a, b => by
    show wT x + wTs (a ++ b) = (wT x + wTs a) + wTs b
    rw [wTs_app a b, Nat.add_assoc]
theorem mxTs_app : ∀ (a b : List Tr), mxTs (a ++ b) = max (mxTs a) (mxTs b)
  | [], b => (Nat.zero_max _).symm
  | x :: a, b => by
    show max (mxT x) (mxTs (a ++ b)) = max (max (mxT x) (mxTs a)) (mxTs b)
    rw [mxTs_app a b, Nat.max_assoc]
theorem lates_m : ∀ j : Nat, okTs (List.replicate j (.str late)) = true ∧ depTs (List.replicate j (.str late)) = 0 ∧ wTs (List.replicate j (.str late)) = 0 ∧ mxTs (List.replicate j (.str late)) = 0
  | 0 => ⟨rfl, rfl, rfl, rfl⟩
  | j + 1 => by
    obtain ⟨a, b, c, d⟩ := lates_m j
    refine ⟨?_, ?_, ?_, ?_⟩
    · show (okT (.str late) && okTs (List.replicate j (.str late))) = true
      rw [a]; rfl
    · show max (depT (.str late)) (depTs (List.replicate j (.str late))) = 0
      rw [b]; rfl
    · show wT (.str late) + wTs (List.replicate j (.str late)) = 0
      rw [c]; rfl
    · show max (mxT (.str late)) (mxTs (List.replicate j (.str late))) = 0
      rw [d]; rfl
section
variable {P : PP} {h0 : Hh} {ns : List Int} {T : List Df} {gs : Nat}
def Sp (P : PP) (h0 : Hh) (C : Cf) (gs N M : Nat) (v : Va) (t : Tr) : Prop := ∀ (c : Nat) (h : Hh), Gs P h0 c h → c + wT t ≤ M → ∃ h', C.call gs [v] h = .ok .non h' ∧ Gs P h0 (c + wT t) h' ∧ Chg P h0 (depT t) h h'
theorem sp_loop {C : Cf} {N M d : Nat} {l : Nat} {o : Ob} {t : Tr} (rl : Rd' P h0 (.ref l) t) (kt : okT t = true) (dt : d < depT t) {x0 x1 : Option Va} :
    ∀ (as : List Va) (us : List Tr), Rds P h0 as us → okTs us = true → depTs us ≤ d → (∀ a u, Rd' P h0 a u → okT u = true → depT u ≤ d → (a, u) ∈ as.zip us → Sp P h0 C gs N M a u) → ∀ (c : Nat) (h : Hh) (x2 : Option Va), Gs P h0 c h → h[l]? = some o → c + wTs us ≤ M →
    ∃ x2' h', forGo [(l, o)] (.nm 2) (exs C (.cons (.exp (.call gs (.cons (.var 2) .nil))) .nil)) (as.map .one) [x0, x1, x2] h = .nx [x0, x1, x2'] h' ∧ Gs P h0 (c + wTs us) h' ∧ Chg P h0 d h h' := by
  intro as
  induction as with
  | nil =>
    intro us r ko dd ih c h x2 g e w
    cases r
    refine ⟨x2, h, ?_, g, .refl⟩
    show (if live [(l, o)] h = true then RX.nx _ h else .bad) = _
    rw [if_pos (by unfold live; simp [e])]
  | cons a as ihs =>
    intro us r ko dd ih c h x2 g e w
    cases r with
    | cons ra rs =>
      rename_i u us
      have ko : (okT u && okTs us) = true := ko
      rw [Bool.and_eq_true] at ko
      have dd : max (depT u) (depTs us) ≤ d := dd
      have w : c + (wT u + wTs us) ≤ M := w
      obtain ⟨h1, e1, g1, c1⟩ := ih a u ra ko.1 (by omega) (by simp) c h g (by omega)
      have s1 : h1[l]? = some o := (c1.stay rl kt (by omega)).trans e
      obtain ⟨x2', h2, e2, g2, c2⟩ := ihs us rs ko.2 (by omega) (fun a' u' r' k' d' m' => ih a' u' r' k' d' (by simp [m'])) (c + wT u) h1 (some a) g1 s1 (by omega)
      refine ⟨x2', h2, ?_, by rw [show c + wTs (u :: us) = c + wT u + wTs us from (Nat.add_assoc _ _ _).symm]; exact g2, c1.trans c2 (by omega) (Nat.le_refl _)⟩
      show (if live [(l, o)] h = true then turn (exs C (.cons (.exp (.call gs (.cons (.var 2) .nil))) .nil) [x0, x1, some a] h) (forGo [(l, o)] (.nm 2) _ (as.map .one)) else .bad) = _
      rw [if_pos (by unfold live; simp [e])]
      have eb : exs C (.cons (.exp (.call gs (.cons (.var 2) .nil))) .nil) [x0, x1, some a] h = .nx [x0, x1, some a] h1 := by
        show (ofE' _ (((RE.ok a h).bind fun x h1 => (RE.ok [] h1).bind fun xs h2 => RE.ok (x :: xs) h2).bind fun vs h1 => C.call gs vs h1) _).seq _ = _
        show (ofE' _ (C.call gs [a] h) _).seq _ = _
        rw [e1]
        rfl
      rw [eb]
      exact e2
end

theorem depT_pos {t : Tr} {l : Nat} {P : PP} {h : Hh} (r : Rd' P h (.ref l) t) (k : okT t = true) : 0 < depT t := by
  cases r with
  | lst p q r => exact Nat.succ_pos _
  | tup p q r => exact Nat.succ_pos _
  | dK p q e r => cases k
  | dT p q e r => cases k
theorem zip_mem {as : List Va} {us : List Tr} {P : PP} {h : Hh} (r : Rds P h as us) : ∀ a u, (a, u) ∈ as.zip us → Rd' P h a u ∧ wT u ≤ wTs us ∧ mxT u ≤ mxTs us := by
  induction as generalizing us with
  | nil => intro a u m; simp at m
  | cons a as ih =>
    cases r with
    | cons ra rs =>
      rename_i v vs
      intro a u m
      rw [List.zip_cons_cons, List.mem_cons] at m
      rcases m with m | m
      · cases m
        exact ⟨ra, Nat.le_add_right _ _, Nat.le_max_left _ _⟩
      · obtain ⟨x, y, z⟩ := ih rs a u m
        exact ⟨x, Nat.le_trans y (Nat.le_add_left _ _), Nat.le_trans z (Nat.le_max_right _ _)⟩
theorem sp_run {ns : List Int} {T : List Df} {gs k : Nat} (hT : T[gs]? = some ⟨3, 1, b_spoilt gs⟩) {v : Va} {h h' : Hh} {σ' : Sl} (e : exs ⟨ns, callN ns T k⟩ (b_spoilt gs) [some v, none, none] h = .nx σ' h') : callN ns T (k + 1) gs [v] h = .ok .non h' := by
  show (match T[gs]? with
    | some d => runDf ⟨ns, callN ns T k⟩ d [v] h
    | none => .bad) = _
  rw [hT]
  show (match exs ⟨ns, callN ns T k⟩ (b_spoilt gs) [some v, none, none] h with
    | .rt v h1 => RE.ok v h1
    | .nx _ h1 => .ok .non h1
    | .exc c e _ h1 => .exc c e h1
    | _ => .bad) = _
  rw [e]
theorem tst_inst {C : Cf} {ts : List Ty} {v : Va} {σ : Sl} {h : Hh} (e : σ[0]? = some (some v)) (k : tyOk v h = true) : tst (ev C (.inst (.var 0) ts) σ h) = .ok (ts.any (isTy v h)) h := by
  have : ev C (.inst (.var 0) ts) σ h = .ok (.bl (ts.any (isTy v h))) h := by
    have e0 : ev C (.var 0) σ h = .ok v h := by unfold ev; rw [e]
    show (ev C (.var 0) σ h).bind _ = _
    rw [e0]
    show instV ts v h = _
    unfold instV
    rw [if_pos k]
  rw [this]
  rfl
/-- no list, tuple, dict: nothing is done -/
theorem sp_atom {C : Cf} {gs : Nat} {v : Va} {h : Hh} (k : tyOk v h = true) (a : isTy v h .dict = false) (b : isTy v h .list = false) (c : isTy v h .tuple = false) : exs C (b_spoilt gs) [some v, none, none] h = .nx [some v, none, none] h := by
  unfold b_spoilt
  rw [ife_go (tst_inst rfl k)]
  rw [if_neg (by simp [a])]
  show exs C _ _ _ = _
  rw [ife_go (tst_inst rfl k)]
  rw [if_neg (by simp [b, c])]
  show exs C _ _ _ = _
  rw [ife_go (tst_inst rfl k)]
  rw [if_neg (by simp [b])]
  rfl
theorem sp_tup {C : Cf} {gs l : Nat} {xs : List Va} {h h' : Hh} {x2 : Option Va} (e : h[l]? = some (.tup xs)) (e' : h'[l]? = some (.tup xs))
    (lp : forGo [(l, .tup xs)] (.nm 2) (exs C (.cons (.exp (.call gs (.cons (.var 2) .nil))) .nil)) (xs.map .one) [some (.ref l), none, none] h = .nx [some (.ref l), none, x2] h') : exs C (b_spoilt gs) [some (.ref l), none, none] h = .nx [some (.ref l), none, x2] h' := by
  have k : tyOk (.ref l) h = true := by unfold tyOk; simp only [e]
  have k' : tyOk (.ref l) h' = true := by unfold tyOk; simp only [e']
  have ty : tyOf (.ref l) h = some .tuple := by unfold tyOf; simp only [e]
  have ty' : tyOf (.ref l) h' = some .tuple := by unfold tyOf; simp only [e']
  unfold b_spoilt
  rw [ife_go (tst_inst rfl k), if_neg (by simp [isTy, ty])]
  show exs C _ _ _ = _
  rw [ife_go (tst_inst rfl k), if_pos (by simp [isTy, ty])]
  have el : exs C (.cons (.for_ (.val (.var 0)) (.nm 2) (.cons (.exp (.call gs (.cons (.var 2) .nil))) .nil)) .nil) [some (.ref l), none, none] h = .nx [some (.ref l), none, x2] h' := by
    show ((ofE' _ (match seqOf h (.ref l) with
      | some (s, xs) => RE.ok (⟨s, xs.map .one⟩ : Itr) h
      | none => .bad) _).seq _) = _
    have : seqOf h (.ref l) = some ([(l, .tup xs)], xs) := by unfold seqOf; simp only [e]
    rw [this]
    show (forGo [(l, .tup xs)] (.nm 2) (exs C (.cons (.exp (.call gs (.cons (.var 2) .nil))) .nil)) (xs.map .one) [some (.ref l), none, none] h).seq _ = _
    rw [lp]
    rfl
  rw [el]
  show exs C _ _ _ = _
  rw [ife_go (tst_inst rfl k'), if_neg (by simp [isTy, ty'])]
  rfl
theorem sp_lst {C : Cf} {gs l : Nat} {xs : List Va} {h h' : Hh} {x2 : Option Va} (e : h[l]? = some (.lst xs)) (e' : h'[l]? = some (.lst xs)) (w : xs.length < BIG)
    (lp : forGo [(l, .lst xs)] (.nm 2) (exs C (.cons (.exp (.call gs (.cons (.var 2) .nil))) .nil)) (xs.map .one) [some (.ref l), none, none] h = .nx [some (.ref l), none, x2] h') : exs C (b_spoilt gs) [some (.ref l), none, none] h = .nx [some (.ref l), none, x2] (h'.set l (.lst (xs ++ [.str late]))) := by
  have k : tyOk (.ref l) h = true := by unfold tyOk; simp only [e]
  have k' : tyOk (.ref l) h' = true := by unfold tyOk; simp only [e']
  have ty : tyOf (.ref l) h = some .list := by unfold tyOf; simp only [e]
  have ty' : tyOf (.ref l) h' = some .list := by unfold tyOf; simp only [e']
  unfold b_spoilt
  rw [ife_go (tst_inst rfl k), if_neg (by simp [isTy, ty])]
  show exs C _ _ _ = _
  rw [ife_go (tst_inst rfl k), if_pos (by simp [isTy, ty])]
  have el : exs C (.cons (.for_ (.val (.var 0)) (.nm 2) (.cons (.exp (.call gs (.cons (.var 2) .nil))) .nil)) .nil) [some (.ref l), none, none] h = .nx [some (.ref l), none, x2] h' := by
    show ((ofE' _ (match seqOf h (.ref l) with
      | some (s, xs) => RE.ok (⟨s, xs.map .one⟩ : Itr) h
      | none => .bad) _).seq _) = _
    have : seqOf h (.ref l) = some ([(l, .lst xs)], xs) := by unfold seqOf; simp only [e]
    rw [this]
    show (forGo [(l, .lst xs)] (.nm 2) (exs C (.cons (.exp (.call gs (.cons (.var 2) .nil))) .nil)) (xs.map .one) [some (.ref l), none, none] h).seq _ = _
    rw [lp]
    rfl
  rw [el]
  show exs C _ _ _ = _
  rw [ife_go (tst_inst rfl k'), if_pos (by simp [isTy, ty'])]
  show ((ofE' _ (match kdOf (.ref l) h' with
      | some kd => if mtOk .append kd = true then (RE.ok [.str late] h').bind fun vs h2 => mtK .append kd (.ref l) vs h2 else .bad
      | none => .bad) _).seq _).seq _ = _
  rw [show kdOf (.ref l) h' = some .l by unfold kdOf; simp only [e']]
  show ((ofE' _ (appendV (.ref l) [.str late] h') _).seq _).seq _ = _
  rw [show appendV (.ref l) [.str late] h' = .ok .non (h'.set l (.lst (xs ++ [.str late]))) by
    unfold appendV
    simp only [e']
    rw [if_pos w]]
  rfl
theorem sp_all {ns : List Int} {T : List Df} {gs : Nat} (hT : T[gs]? = some ⟨3, 1, b_spoilt gs⟩) {P : PP} {h0 : Hh} {N M : Nat} (hNM : N + M < BIG) :
    ∀ (n k : Nat), n ≤ k → ∀ (v : Va) (t : Tr), Rd' P h0 v t → okT t = true → depT t ≤ n → mxT t ≤ N → Sp P h0 ⟨ns, callN ns T (k + 1)⟩ gs N M v t := by
  intro n
  induction n with
  | zero =>
    intro k hk v t r ko dd mx c h g w
    have at_ : exs ⟨ns, callN ns T k⟩ (b_spoilt gs) [some v, none, none] h = .nx [some v, none, none] h := by
      cases r with
      | non => exact sp_atom rfl rfl rfl rfl
      | bl b => exact sp_atom rfl rfl rfl rfl
      | int i => exact sp_atom rfl rfl rfl rfl
      | str x => exact sp_atom rfl rfl rfl rfl
      | scr => cases ko
      | lst p q r => exact absurd dd (by show ¬ (depTs _ + 1 ≤ 0); omega)
      | tup p q r => exact absurd dd (by show ¬ (depTs _ + 1 ≤ 0); omega)
      | dK p q e r => cases ko
      | dT p q e r => cases ko
    exact ⟨h, sp_run hT at_, g.up (Nat.le_add_right _ _), .refl⟩
  | succ n ih =>
    intro k hk v t r ko dd mx c h g w
    have atom : (wT t = 0 → exs ⟨ns, callN ns T k⟩ (b_spoilt gs) [some v, none, none] h = .nx [some v, none, none] h → ∃ h', callN ns T (k + 1) gs [v] h = .ok .non h' ∧ Gs P h0 (c + wT t) h' ∧ Chg P h0 (depT t) h h') := fun _ e => ⟨h, sp_run hT e, g.up (Nat.le_add_right _ _), .refl⟩
    have r0 := r
    cases r with
    | non => exact atom rfl (sp_atom rfl rfl rfl rfl)
    | bl b => exact atom rfl (sp_atom rfl rfl rfl rfl)
    | int i => exact atom rfl (sp_atom rfl rfl rfl rfl)
    | str x => exact atom rfl (sp_atom rfl rfl rfl rfl)
    | scr => cases ko
    | dK p q e r => cases ko
    | dT p q e r => cases ko
    | tup p q r =>
      rename_i l xs ts
      obtain ⟨k, rfl⟩ : ∃ k', k = k' + 1 := ⟨k - 1, by omega⟩
      have el : h[l]? = some (.tup xs) := by
        rcases g.2 l _ q with z | ⟨ys, j, z, _⟩
        · exact z
        · cases z
      have dt : depTs ts + 1 ≤ n + 1 := dd
      obtain ⟨x2, h', lp, g', c'⟩ := sp_loop (C := ⟨ns, callN ns T (k + 1)⟩) (gs := gs) (N := N) (M := M) (d := depTs ts) r0 ko (Nat.lt_succ_self _) (x0 := some (.ref l)) (x1 := none) xs ts r ko (Nat.le_refl _)
        (fun a u ra ka da m => ih k (by omega) a u ra ka (by omega) (Nat.le_trans (zip_mem r a u m).2.2 (Nat.le_trans (Nat.le_max_right _ _) mx))) c h none g el w
      have el' : h'[l]? = some (.tup xs) := (c'.stay r0 ko (Nat.lt_succ_self _)).trans el
      exact ⟨h', sp_run hT (sp_tup el el' lp), g', c'.trans .refl (by show depTs ts ≤ depTs ts + 1; omega) (Nat.le_refl _)⟩
    | lst p q r =>
      rename_i l xs ts
      obtain ⟨k, rfl⟩ : ∃ k', k = k' + 1 := ⟨k - 1, by omega⟩
      obtain ⟨j, hj, el⟩ : ∃ j, j ≤ c ∧ h[l]? = some (.lst (xs ++ List.replicate j (.str late))) := by
        rcases g.2 l _ q with z | ⟨ys, j, z, _, b, d⟩
        · exact ⟨0, Nat.zero_le _, by rw [z]; simp⟩
        · cases z
          exact ⟨j, b, d⟩
      have dt : depTs ts + 1 ≤ n + 1 := dd
      have w : c + (wTs ts + 1) ≤ M := w
      have mx : max ts.length (mxTs ts) ≤ N := mx
      obtain ⟨m1, m2, m3, m4⟩ := lates_m j
      have r2 : Rds P h0 (xs ++ List.replicate j (.str late)) (ts ++ List.replicate j (.str late)) := r.app (Rds.lates j)
      have w2 : wTs (ts ++ List.replicate j (.str late)) = wTs ts := by rw [wTs_app, m3]; rfl
      obtain ⟨x2, h', lp, g', c'⟩ := sp_loop (C := ⟨ns, callN ns T (k + 1)⟩) (gs := gs) (N := N) (M := M) (d := depTs ts) r0 ko (Nat.lt_succ_self _) (x0 := some (.ref l)) (x1 := none) _ _ r2 (by rw [okTs_app, m1, Bool.and_true]; exact ko) (by rw [depTs_app, m2]; omega)
        (fun a u ra ka da m => ih k (by omega) a u ra ka (by omega) (by have := (zip_mem r2 a u m).2.2; rw [mxTs_app, m4] at this; omega)) c h none g el (by rw [w2]; omega)
      rw [w2] at g'
      have el' := (c'.stay r0 ko (Nat.lt_succ_self _)).trans el
      have len : (xs ++ List.replicate j (Va.str late)).length < BIG := by
        rw [List.length_append, List.length_replicate, r.len]
        omega
      have ll : l < h'.length := lt_of_get el'
      refine ⟨_, sp_run hT (sp_lst el el' len lp), ⟨by rw [List.length_set]; exact g'.1, fun l' o' e' => ?_⟩, fun l' => ?_⟩
      · by_cases hl : l = l'
        · subst hl
          rw [q] at e'
          cases e'
          refine .inr ⟨xs, j + 1, rfl, p, by show j + 1 ≤ c + (wTs ts + 1); omega, ?_⟩
          rw [List.getElem?_set_self ll, List.append_assoc, ← List.replicate_succ']
        · rw [List.getElem?_set_ne hl]
          exact (g'.up (by show c + wTs ts ≤ c + (wTs ts + 1); omega)).2 l' o' e'
      · by_cases hl : l = l'
        · subst hl
          exact .inr ⟨_, r0, ko, Nat.le_refl _⟩
        · rw [List.getElem?_set_ne hl]
          exact (c' l').imp id fun ⟨u, a, b, d⟩ => ⟨u, a, b, by show depT u ≤ depTs ts + 1; omega⟩
end HA

namespace HA
open PySem PySem.Spec PyProof.Rows L2

/-! ### which slots a text sets -/
def asgAt : At → List Nat
  | .tg t => tgSlots t
  | .sub _ _ => []
def asgAts : List At → List Nat
  | [] => []
  | t :: r => asgAt t ++ asgAts r
mutual
def asgSm : Sm → List Nat
  | .asg tg _ => tgSlots tg
  | .asgs ts _ => asgAts ts
  | .par is _ => is
  | .ife _ a b => asgSs a ++ asgSs b
  | .for_ _ tg b => tgSlots tg ++ asgSs b
  | .whl _ b => asgSs b
  | _ => []
def asgSs : Ss → List Nat
  | .nil => []
  | .cons s r => asgSm s ++ asgSs r
end
abbrev Un (js : List Nat) (σ σ' : Sl) : Prop := ∀ j : Nat, j ∉ js → σ'[j]? = σ[j]?
def UnX (js : List Nat) (σ : Sl) : RX → Prop
  | .nx σ' _ => Un js σ σ'
  | .bk σ' _ => Un js σ σ'
  | .ct σ' _ => Un js σ σ'
  | _ => True
theorem Un.refl {js : List Nat} {σ : Sl} : Un js σ σ := fun _ _ => rfl
theorem Un.trans {js : List Nat} {σ σ1 σ2 : Sl} (a : Un js σ σ1) (b : Un js σ1 σ2) : Un js σ σ2 := fun j m => (b j m).trans (a j m)
theorem Un.more {js ks : List Nat} {σ σ1 : Sl} (a : Un js σ σ1) (w : ∀ j, j ∈ js → j ∈ ks) : Un ks σ σ1 := fun j m => a j fun z => m (w j z)
theorem UnX.more {js ks : List Nat} {σ : Sl} {r : RX} (a : UnX js σ r) (w : ∀ j, j ∈ js → j ∈ ks) : UnX ks σ r := by
  cases r <;> first | exact Un.more a w | trivial
theorem UnX.after {js : List Nat} {σ σ1 : Sl} {r : RX} (u : Un js σ σ1) (a : UnX js σ1 r) : UnX js σ r := by
  cases r <;> first | exact u.trans a | trivial
theorem tg_un {h : Hh} : ∀ {t : Tg} {xs : List Va} {σ σ' : Sl}, tgA h t xs σ = some σ' → Un (tgSlots t) σ σ' := by
  intro t
  induction t with
  | nm i =>
    intro xs σ σ' e
    match xs with
    | [v] =>
      cases e
      intro j m
      rw [List.getElem?_set_ne (fun z => m (by rw [← z]; exact List.mem_singleton.mpr rfl))]
    | [] => cases e
    | _ :: _ :: _ => cases e
  | te =>
    intro xs σ σ' e
    match xs with
    | [] => cases e; exact .refl
    | _ :: _ => cases e
  | tp a r iha ihr =>
    intro xs σ σ' e
    match xs with
    | [] => cases e
    | x :: xs =>
      unfold tgA at e
      split at e
      · split at e
        · rename_i σ1 e1
          exact ((iha e1).more fun j m => List.mem_append_left _ m).trans ((ihr e).more fun j m => List.mem_append_right _ m)
        · cases e
      · cases e
theorem tgY_un {h : Hh} {t : Tg} {y : Ya} {σ σ' : Sl} (e : tgY h t y σ = some σ') : Un (tgSlots t) σ σ' := by
  unfold tgY at e
  split at e
  · split at e
    · exact tg_un e
    · cases e
  · split at e
    · cases e
    · exact tg_un e
theorem ofE_un {α : Type} {js : List Nat} {σ : Sl} {r : RE α} {k : α → Hh → RX} (f : ∀ a h, UnX js σ (k a h)) : UnX js σ (ofE' σ r k) := by
  cases r with
  | ok a h => exact f a h
  | exc c d h => trivial
  | bad => trivial
theorem turn_un {js : List Nat} {σ : Sl} {r : RX} {go : Sl → Hh → RX} (a : UnX js σ r) (g : ∀ σ1 h, UnX js σ1 (go σ1 h)) : UnX js σ (turn r go) := by
  cases r with
  | nx σ1 h => exact (g σ1 h).after a
  | ct σ1 h => exact (g σ1 h).after a
  | bk σ1 h => exact a
  | rt v h => trivial
  | exc c d σ1 h => trivial
  | bad => trivial
theorem for_un {src : List (Nat × Ob)} {tg : Tg} {js : List Nat} {body : Sl → Hh → RX} (hb : ∀ σ h, UnX js σ (body σ h)) (ht : ∀ j, j ∈ tgSlots tg → j ∈ js) : ∀ (ys : List Ya) (σ : Sl) (h : Hh), UnX js σ (forGo src tg body ys σ h) := by
  intro ys
  induction ys with
  | nil =>
    intro σ h
    unfold forGo
    split
    · exact Un.refl
    · trivial
  | cons y ys ih =>
    intro σ h
    unfold forGo
    split
    · split
      · rename_i σ1 e
        exact (turn_un (hb σ1 h) ih).after ((tgY_un e).more ht)
      · trivial
    · trivial
theorem whl_un {t : Sl → Hh → RE Bool} {js : List Nat} {body : Sl → Hh → RX} (hb : ∀ σ h, UnX js σ (body σ h)) : ∀ (n : Nat) (σ : Sl) (h : Hh), UnX js σ (whlGo t body n σ h) := by
  intro n
  induction n with
  | zero => intro σ h; trivial
  | succ n ih =>
    intro σ h
    refine ofE_un fun k h1 => ?_
    split
    · exact turn_un (hb σ h1) ih
    · exact Un.refl
theorem setAll_un : ∀ {is : List Nat} {vs : List Va} {σ σ' : Sl}, setAll is vs σ = some σ' → Un is σ σ'
  | [], [], σ, σ', e => by cases e; exact .refl
  | [], _ :: _, σ, σ', e => by cases e
  | _ :: _, [], σ, σ', e => by cases e
  | i :: is, v :: vs, σ, σ', e => by
    have e : setAll is vs (σ.set i (some v)) = some σ' := e
    refine Un.trans (fun j m => ?_) ((setAll_un e).more fun j m => List.mem_cons_of_mem _ m)
    rw [List.getElem?_set_ne (fun z => m (by rw [z]; exact List.mem_cons_self))]
theorem asgGo_un {f : E → Sl → Hh → RE Va} : ∀ (ts : List At) (xs : List Va) (σ : Sl) (h : Hh), UnX (asgAts ts) σ (asgGo f ts xs σ h)
  | [], [], σ, h => Un.refl
  | [], _ :: _, σ, h => trivial
  | .tg t :: r, [], σ, h => trivial
  | .sub o i :: r, [], σ, h => trivial
  | .tg t :: r, x :: xs, σ, h => by
    unfold asgGo
    split
    · rename_i σ1 e
      exact ((asgGo_un r xs σ1 h).more fun j m => List.mem_append_right _ m).after ((tgY_un e).more fun j m => List.mem_append_left _ m)
    · trivial
  | .sub o i :: r, x :: xs, σ, h => by
    unfold asgGo
    refine ofE_un fun ov h1 => ofE_un fun iv h2 => ?_
    split
    · rename_i h3 e
      exact asgGo_un r xs σ h3
    · trivial
theorem seq_un {js : List Nat} {σ : Sl} {r : RX} {k : Sl → Hh → RX} (a : UnX js σ r) (g : ∀ σ1 h, UnX js σ1 (k σ1 h)) : UnX js σ (r.seq k) := by
  cases r with
  | nx σ1 h => exact (g σ1 h).after a
  | ct σ1 h => exact a
  | bk σ1 h => exact a
  | rt v h => trivial
  | exc c d σ1 h => trivial
  | bad => trivial
mutual
theorem ex_un {C : Cf} : ∀ (s : Sm) (σ : Sl) (h : Hh), UnX (asgSm s) σ (ex C s σ h)
  | .asg tg e, σ, h => by
    unfold ex
    refine ofE_un fun v h1 => ?_
    cases q : tgY h1 tg (.one v) σ with
    | none => trivial
    | some σ1 => exact tgY_un q
  | .asgs ts e, σ, h => by
    unfold ex
    refine ofE_un fun v h1 => ?_
    split
    · split
      · exact asgGo_un ts _ σ h1
      · trivial
    · trivial
  | .par is es, σ, h => by
    unfold ex
    refine ofE_un fun vs h1 => ?_
    cases q : setAll is vs σ with
    | none => trivial
    | some σ1 => exact setAll_un q
  | .set o i e, σ, h => by
    unfold ex
    refine ofE_un fun v h1 => ofE_un fun x h2 => ofE_un fun y h3 => ?_
    split
    · exact Un.refl
    · trivial
  | .exp e, σ, h => by unfold ex; exact ofE_un fun v h1 => Un.refl
  | .ret e, σ, h => by unfold ex; exact ofE_un fun v h1 => trivial
  | .ife c a b, σ, h => by
    unfold ex
    refine ofE_un fun k h1 => ?_
    split
    · exact (exs_un a σ h1).more fun j m => List.mem_append_left _ m
    · exact (exs_un b σ h1).more fun j m => List.mem_append_right _ m
  | .for_ it tg b, σ, h => by
    unfold ex
    exact ofE_un fun w h1 => for_un (fun σ h => (exs_un b σ h).more fun j m => List.mem_append_right _ m) (fun j m => List.mem_append_left _ m) _ _ _
  | .whl c b, σ, h => by
    unfold ex
    exact whl_un (fun σ h => exs_un b σ h) _ _ _
  | .brk, σ, h => Un.refl
  | .cont, σ, h => Un.refl
  | .pass, σ, h => Un.refl
  | .never, σ, h => trivial
theorem exs_un {C : Cf} : ∀ (s : Ss) (σ : Sl) (h : Hh), UnX (asgSs s) σ (exs C s σ h)
  | .nil, σ, h => Un.refl
  | .cons s r, σ, h => by
    unfold exs
    exact seq_un ((ex_un s σ h).more fun j m => List.mem_append_left _ m) fun σ1 h1 => (exs_un r σ1 h1).more fun j m => List.mem_append_right _ m
end
end HA

namespace HA
open PySem PySem.Spec PyProof.Rows L2

/-! ### a stretch behind which something new is spoilt -/
def appS : Ss → Ss → Ss
  | .nil, r => r
  | .cons s q, r => .cons s (appS q r)
theorem RX.seq_assoc (r : RX) (f g : Sl → Hh → RX) : (r.seq f).seq g = r.seq fun σ h => (f σ h).seq g := by cases r <;> rfl
theorem exs_app {C : Cf} : ∀ (a r : Ss) (σ : Sl) (h : Hh), exs C (appS a r) σ h = (exs C a σ h).seq (exs C r)
  | .nil, r, σ, h => rfl
  | .cons s q, r, σ, h => by
    show (ex C s σ h).seq (exs C (appS q r)) = ((ex C s σ h).seq (exs C q)).seq (exs C r)
    rw [RX.seq_assoc]
    congr 1
    funext σ1 h1
    exact exs_app q r σ1 h1
def ageS : Sb → Sb
  | .val t _ _ => .val t false (imm t)
  | b => b
def atomS : Sb → Sb
  | .val .non _ fr => .val .non false fr
  | .val (.bl b) _ fr => .val (.bl b) false fr
  | .val (.int i) _ fr => .val (.int i) false fr
  | .val (.str x) _ fr => .val (.str x) false fr
  | _ => .no
def mrg (js : List Nat) : Nat → List Sb → List Sb → List Sb
  | n, o :: os, b :: bs => (if js.contains n = true then atomS b else o) :: mrg js (n + 1) os bs
  | _, _, _ => []
def owM (js : List Nat) : Nat → Ow → Ow
  | n, o :: os => (if js.contains n = true then none else o) :: owM js (n + 1) os
  | _, [] => []
theorem mrg_get (js : List Nat) : ∀ (os bs : List Sb) (n i : Nat) (c : Sb), (mrg js n os bs)[i]? = some c → ∃ o b, os[i]? = some o ∧ bs[i]? = some b ∧ c = if js.contains (n + i) = true then atomS b else o
  | [], bs, n, i, c, e => by simp [mrg] at e
  | o :: os, [], n, i, c, e => by simp [mrg] at e
  | o :: os, b :: bs, n, 0, c, e => by
    unfold mrg at e
    cases e
    exact ⟨o, b, rfl, rfl, rfl⟩
  | o :: os, b :: bs, n, i + 1, c, e => by
    unfold mrg at e
    obtain ⟨o', b', e1, e2, e3⟩ := mrg_get js os bs (n + 1) i c e
    exact ⟨o', b', e1, e2, by rw [e3, show n + 1 + i = n + (i + 1) by omega]⟩
theorem mrg_len (js : List Nat) : ∀ (os bs : List Sb) (n : Nat), os.length = bs.length → (mrg js n os bs).length = os.length
  | [], bs, n, e => rfl
  | o :: os, [], n, e => by cases e
  | o :: os, b :: bs, n, e => by
    show (mrg js (n + 1) os bs).length + 1 = os.length + 1
    rw [mrg_len js os bs (n + 1) (Nat.succ.inj e)]
theorem owM_get (js : List Nat) : ∀ (os : Ow) (n i : Nat), (owM js n os)[i]? = (os[i]?).map fun o => if js.contains (n + i) = true then none else o
  | [], n, i => by simp [owM]
  | o :: os, n, 0 => rfl
  | o :: os, n, i + 1 => by
    show (owM js (n + 1) os)[i]? = (os[i]?).map _
    rw [owM_get js os (n + 1) i, show n + 1 + i = n + (i + 1) by omega]
theorem owM_sub {js : List Nat} {ow : Ow} {i l : Nat} (e : (owM js 0 ow)[i]? = some (some l)) : ow[i]? = some (some l) ∧ i ∉ js := by
  rw [owM_get] at e
  cases q : ow[i]? with
  | none => rw [q] at e; cases e
  | some o =>
    rw [q] at e
    have e : (some (if js.contains (0 + i) = true then none else o) : Option (Option Nat)) = some (some l) := e
    split at e
    · cases e
    · rename_i hj
      refine ⟨by cases e; rfl, fun m => hj ?_⟩
      rw [Nat.zero_add]
      exact List.contains_iff_mem.mpr m
theorem owM_len (js : List Nat) : ∀ (os : Ow) (n : Nat), (owM js n os).length = os.length
  | [], n => rfl
  | o :: os, n => by
    show (owM js (n + 1) os).length + 1 = os.length + 1
    rw [owM_len js os (n + 1)]
/-- spoiling, by the text -/
def SpAll (Ca : Cf) (gs : Nat) : Prop := ∀ {P : PP} {h0 : Hh} {N M : Nat}, N + M < BIG → ∀ (v : Va) (t : Tr), Rd' P h0 v t → okT t = true → depT t ≤ 20 → mxT t ≤ N → Sp P h0 Ca gs N M v t
theorem spAll_of {ns : List Int} {T : List Df} {gs k : Nat} (hT : T[gs]? = some ⟨3, 1, b_spoilt gs⟩) (hk : 21 ≤ k) : SpAll ⟨ns, callN ns T k⟩ gs := fun {P h0 N M} hz v t r a b c => by
  obtain ⟨k, rfl⟩ : ∃ k', k = k' + 1 := ⟨k - 1, by omega⟩
  exact sp_all hT hz 20 k (by omega) v t r a b c
def spB (x : Lv) : Bool := x.fr && (okT x.t && (decide (depT x.t ≤ 20) && decide (mxT x.t + wT x.t < BIG)))
abbrev noSg (C : Cb) : Cb := ⟨C.ns, none, C.call⟩
def blkE (C : Cb) (b : Ss) (e : E) (bs : BS) : BX := match bexs (noSg C) b ⟨bs.sl.map ageS, bs.st⟩ with
  | .nx s1 => match bev (noSg C) e s1 with
    | .ok x s2 => if spB x = true ∧ s2.sl.length = bs.sl.length then .nx ⟨mrg (asgSs b) 0 bs.sl s2.sl, s2.st⟩ else .bad
    | .bad => .bad
  | .rt x st => .rt x st
  | _ => .bad
def blkB (C : Cb) (b : Ss) (i : Nat) (bs : BS) : BX := match bexs (noSg C) b ⟨bs.sl.map ageS, bs.st⟩ with
  | .nx s1 => match bev (noSg C) (.var i) s1 with
    | .ok x s2 => if spB x = true ∧ s2.sl.length = bs.sl.length then .nx ⟨mrg (asgSs b) 0 bs.sl s2.sl, s2.st⟩ else .bad
    | .bad => .bad
  | .rt x st => .rt x st
  | _ => .bad
section
variable {n0 : Nat} {h : Hh} {σ : Sl} {bs : BS} {O : List Nat} {ow : Ow} {sr : So} {Ca : Cf} {C : Cb}
def notOwn (O : List Nat) (ow : Ow) : List Nat := O.filter fun l => !(ow.contains (some l))
theorem isOwn_iff {l : Nat} : isOwn ow l ↔ some l ∈ ow := by
  unfold isOwn
  exact List.mem_iff_getElem?.symm
theorem notOwn_iff {l : Nat} : l ∈ notOwn O ow ↔ l ∈ O ∧ ¬ isOwn ow l := by
  unfold notOwn
  rw [List.mem_filter, isOwn_iff]
  simp
theorem none_own {n j l : Nat} : (List.replicate n (none : Option Nat))[j]? ≠ some (some l) := fun z => by
  rw [List.getElem?_replicate] at z
  split at z <;> cases z
theorem BR.age (B : BR n0 h σ bs O ow sr) : BR h.length h σ ⟨bs.sl.map ageS, bs.st⟩ (notOwn O ow) (List.replicate ow.length none) sr := by
  refine ⟨by rw [List.length_map]; exact B.len, by rw [List.length_replicate, List.length_map]; exact B.ol, fun i b e => ?_, fun l ⟨j, z⟩ => absurd z none_own, fun i j l z => absurd z none_own, B.str, fun l z => notOwn_iff.mpr ⟨B.sO l z, fun w => (B.inO l w).2 z⟩, fun l z => B.lt l (notOwn_iff.mp z).1, Nat.le_refl _⟩
  rw [List.getElem?_map] at e
  cases q : bs.sl[i]? with
  | none => rw [q] at e; cases e
  | some c =>
    rw [q] at e
    have r := B.slots i c q
    cases e
    cases c with
    | no => trivial
    | st => exact r
    | val t own fr =>
      obtain ⟨v, e1, r⟩ := r
      refine ⟨v, e1, ?_⟩
      rw [if_neg Bool.false_ne_true]
      have less : ∀ l, l ∉ O → l ∉ notOwn O ow := fun l z w => z (notOwn_iff.mp w).1
      split at r
      · obtain ⟨m, l, a, rfl, c, d⟩ := r
        have im : imm t = false := by cases t <;> first | rfl | cases m
        rw [im]
        have d2 : RTop (Pd (notOwn O ow) h.length false) h (.ref l) t := d.imp (fun l m o p q => ⟨⟨less l p.1, fun z => by cases z⟩, q⟩) fun _ _ _ q => q
        exact d2.rd ⟨fun w => (notOwn_iff.mp w).2 ⟨i, a⟩, fun z => by cases z⟩
      · have r2 : Rd' (Pd (notOwn O ow) h.length false) h v t := r.imp fun l m o p q => ⟨⟨less l p.1, fun z => by cases z⟩, q⟩
        exact r2.old
theorem Stp.unage {n : Nat} {h' : Hh} {O' : List Nat} {ow' : Ow} {sr' : So} {nm : Nat → Bool} (S : Stp h (notOwn O ow) (List.replicate n none) sr h' O' ow' sr' nm) : Stp h O ow sr h' O' ow' sr' (fun _ => true) :=
  ⟨S.len, fun l o e s _ => S.keep l o e s fun j z => absurd z none_own, fun l z w => S.oin l (notOwn_iff.mpr ⟨z, w⟩) fun ⟨j, y⟩ => none_own y, fun l z => (S.oout l z).imp (fun y => (notOwn_iff.mp y).1) id, fun j l z => (S.own j l z).elim (fun y => absurd y none_own) .inr, S.str⟩
theorem RetP.unage {n1 : Nat} {h' : Hh} {O' : List Nat} {v : Va} {x : Lv} (hn : n0 ≤ n1) (r : RetP n1 h' O' v x) : RetP n0 h' O' v x := by
  have w : ∀ (l : Nat) (m : Bool) (o : Ob), Pd O' n1 x.fr l m → h'[l]? = some o → Pd O' n0 x.fr l m ∧ h'[l]? = some o := fun l m o p q => ⟨⟨p.1, fun a b => Nat.le_trans hn (p.2 a b)⟩, q⟩
  unfold RetP at r ⊢
  split at r
  · rename_i hu
    rw [if_pos hu]
    obtain ⟨m, l, e, a, b, c, d⟩ := r
    exact ⟨m, l, e, Nat.le_trans hn a, b, c, d.imp w fun _ _ _ q => q⟩
  · rename_i hu
    rw [if_neg hu]
    exact r.imp w
theorem blk_E {gs : Nat} (hn : Ca.ns = C.ns) (hc : CallsOk Ca C) (hsp : SpAll Ca gs) (b : Ss) (e : E) : StOk Ca C (fun _ => true) (exs Ca (appS b (.cons (.exp (.call gs (.cons e .nil))) .nil))) (blkE C b e) := by
  intro n0 h σ bs O ow sr B
  rw [exs_app]
  have Bg := B.age
  have hc' : CallsOk Ca (noSg C) := hc
  have hm : StmOk Ca (noSg C) := fun g e => by cases e
  have R := sts_B (Ca := Ca) (C := noSg C) hn hc' hm b Bg
  unfold blkE
  split
  · rename_i s1 eb
    rw [eb] at R
    obtain ⟨σ1, h1, e1, O1, ow1, sr1, B1, S1, k1⟩ := R
    have k1 := k1 rfl
    subst k1
    have un : Un (asgSs b) σ σ1 := by
      have := exs_un (C := Ca) b σ h
      rw [e1] at this
      exact this
    split
    · rename_i x s2 ev2
      split
      · rename_i hs
        obtain ⟨hs, hlen⟩ := hs
        unfold spB at hs
        simp only [Bool.and_eq_true, decide_eq_true_eq] at hs
        obtain ⟨s_fr, s_ok, s_dp, s_sz⟩ := hs
        obtain ⟨h2, v, O2, ow2, q2, B2, S2, r2⟩ := (ev_B (Ca := Ca) (C := noSg C) hn hc' e B1 ev2).forget B1
        rw [s_fr] at r2
        have g0 : Gs (Pd O2 h.length true) h2 0 h2 := ⟨rfl, fun l o e => .inl e⟩
        obtain ⟨h3, e3, g3, _⟩ := hsp (N := mxT x.t) (M := wT x.t) s_sz v x.t r2 s_ok s_dp (Nat.le_refl _) 0 h2 g0 (by omega)
        have own1 : ∀ (j l : Nat), ow1[j]? = some (some l) → h.length ≤ l := fun j l z => (S1.own j l z).elim (fun y => absurd y none_own) id
        have F : ∀ (l : Nat) (o : Ob), h[l]? = some o → ¬ isStr sr1 l → h3[l]? = some o := fun l o e s => by
          have hl := lt_of_get e
          have a1 := S1.keep l o e s fun j z => absurd z none_own
          have a2 := S2.keep l o a1 s fun j z => absurd (own1 j l z) (by omega)
          rcases g3.2 l o a2 with z | ⟨xs, j, _, p, _⟩
          · exact z
          · exact absurd (p.2 rfl rfl) (by omega)
        have len3 : h.length ≤ h3.length := by rw [g3.1]; exact Nat.le_trans S1.len S2.len
        have ea : (exs Ca b σ h).seq (exs Ca (.cons (.exp (.call gs (.cons e .nil))) .nil)) = .nx σ1 h3 := by
          rw [e1]
          show (ofE' σ1 (((ev Ca e σ1 h1).bind fun y k1 => (RE.ok [] k1).bind fun xs h2 => RE.ok (y :: xs) h2).bind fun vs h1 => Ca.call gs vs h1) _).seq _ = _
          rw [q2]
          show (ofE' σ1 (Ca.call gs [v] h2) _).seq _ = _
          rw [e3]
          rfl
        rw [ea]
        refine ⟨σ1, h3, rfl, O, owM (asgSs b) 0 ow, sr1, ⟨?_, ?_, fun j c e => ?_, ?_, ?_, ?_, B.sO, fun l z => Nat.lt_of_lt_of_le (B.lt l z) len3, Nat.le_trans B.n0 len3⟩, ⟨len3, fun l o e s _ => F l o e s, fun l z _ => z, fun l z => .inl z, fun j l z => .inl (owM_sub z).1, fun l z => .inl z⟩, fun _ => rfl⟩
        · show σ1.length = (mrg (asgSs b) 0 bs.sl s2.sl).length
          rw [mrg_len _ _ _ _ hlen.symm, ← hlen]
          exact B2.len
        · show (owM (asgSs b) 0 ow).length = (mrg (asgSs b) 0 bs.sl s2.sl).length
          rw [mrg_len _ _ _ _ hlen.symm, owM_len]
          exact B.ol
        · have e : (mrg (asgSs b) 0 bs.sl s2.sl)[j]? = some c := e
          obtain ⟨o, b2, eo, eb2, ec⟩ := mrg_get _ _ _ _ _ _ e
          rw [Nat.zero_add] at ec
          split at ec
          · subst ec
            have r := B2.slots j b2 eb2
            cases b2 with
            | no => trivial
            | st => trivial
            | val t own fr =>
              obtain ⟨w, ew, r⟩ := r
              cases t with
              | non =>
                refine ⟨.non, ?_, by rw [if_neg Bool.false_ne_true]; exact .non⟩
                split at r
                · cases r.1
                · cases r; exact ew
              | bl k =>
                refine ⟨.bl k, ?_, by rw [if_neg Bool.false_ne_true]; exact .bl k⟩
                split at r
                · cases r.1
                · cases r; exact ew
              | int k =>
                refine ⟨.int k, ?_, by rw [if_neg Bool.false_ne_true]; exact .int k⟩
                split at r
                · cases r.1
                · cases r; exact ew
              | str k =>
                refine ⟨.str k, ?_, by rw [if_neg Bool.false_ne_true]; exact .str k⟩
                split at r
                · cases r.1
                · cases r; exact ew
              | _ => trivial
          · rename_i hj
            subst ec
            have nj : j ∉ asgSs b := fun m => hj (List.contains_iff_mem.mpr m)
            have r := B.slots j c eo
            have ej : (owM (asgSs b) 0 ow)[j]? = ow[j]? := by
              rw [owM_get, Nat.zero_add]
              cases ow[j]? with
              | none => rfl
              | some q => exact congrArg some (if_neg hj)
            have uj : σ1[j]? = σ[j]? := un j nj
            have Fi : ∀ (fr : Bool) (l : Nat) (m : Bool) (o : Ob), Pd O n0 fr l m → h[l]? = some o → Pd O n0 fr l m ∧ h3[l]? = some o := fun fr l m o p q => ⟨p, F l o q (B.avoid p.1).2⟩
            cases c with
            | no => trivial
            | st => obtain ⟨p, e1, e2⟩ := r; exact ⟨p, e1, uj.trans e2⟩
            | val t own fr =>
              obtain ⟨w, ew, r⟩ := r
              refine ⟨w, uj.trans ew, ?_⟩
              split at r
              · rename_i ho
                rw [if_pos ho]
                obtain ⟨m, l, a, rfl, c, d⟩ := r
                exact ⟨m, l, ej.trans a, rfl, c, d.imp (Fi fr) fun l' o' z q => F l' o' q (by cases z; exact (B.inO l ⟨j, a⟩).2)⟩
              · rename_i ho
                rw [if_neg ho]
                exact r.imp (Fi fr)
        · intro l ⟨j, z⟩
          exact B.inO l ⟨j, (owM_sub z).1⟩
        · intro a c l z1 z2
          exact B.inj a c l (owM_sub z1).1 (owM_sub z2).1
        · intro p e
          obtain ⟨n, q1, q3⟩ := B2.str p e
          have st : ∀ l o, h2[l]? = some o → isStr sr1 l → h3[l]? = some o := fun l o e s => by
            rcases g3.2 l o e with z | ⟨xs, j, _, p, _⟩
            · exact z
            · exact absurd (B2.sO l s) p.1
          exact ⟨n, st _ _ q1 ⟨p, e, .inl rfl⟩, st _ _ q3 ⟨p, e, .inr rfl⟩⟩
      · trivial
    · trivial
  · rename_i x st eb
    rw [eb] at R
    obtain ⟨v, h', O', ow', sr', e1, so, S, k, q⟩ := R
    rw [e1]
    exact ⟨v, h', O', ow', sr', rfl, so, S.unage, fun _ => k rfl, q.unage B.n0⟩
  · trivial
theorem blk_B {gs : Nat} (hn : Ca.ns = C.ns) (hc : CallsOk Ca C) (hsp : SpAll Ca gs) (b : Ss) (i : Nat) : StOk Ca C (fun _ => true) (exs Ca (appS b (.cons (.exp (.call gs (.cons (.var i) .nil))) .nil))) (blkB C b i) := blk_E hn hc hsp b (.var i)
end
end HA

namespace HA
open PySem PySem.Spec PyProof.Rows L2

/-! ### a law's text with its stretches -/
mutual
inductive LS where
  | s (x : Sm)
  | blk (b : Ss) (i : Nat)
  | blkE (b : Ss) (e : E)
  | for_ (it : It) (tg : Tg) (b : LSs)
  | ife (c : E) (a b : LSs)
inductive LSs where
  | nil
  | cons (x : LS) (r : LSs)
end
mutual
def eraL (gs : Nat) : LS → Ss → Ss
  | .s x, r => .cons x r
  | .blk b i, r => appS (appS b (.cons (.exp (.call gs (.cons (.var i) .nil))) .nil)) r
  | .blkE b e, r => appS (appS b (.cons (.exp (.call gs (.cons e .nil))) .nil)) r
  | .for_ it tg b, r => .cons (.for_ it tg (erasL gs b)) r
  | .ife c a b, r => .cons (.ife c (erasL gs a) (erasL gs b)) r
def erasL (gs : Nat) : LSs → Ss
  | .nil => .nil
  | .cons x r => eraL gs x (erasL gs r)
end
mutual
def nmL (i : Nat) : LS → Bool
  | .s x => nmS i x
  | .blk _ _ => true
  | .blkE _ _ => true
  | .for_ it _ b => nmIt i it && nmLs i b
  | .ife c a b => nmE i c && (nmLs i a && nmLs i b)
def nmLs (i : Nat) : LSs → Bool
  | .nil => true
  | .cons x r => nmL i x && nmLs i r
end
mutual
def bexL (C : Cb) : LS → BS → BX
  | .s x, bs => bex C x bs
  | .blk b i, bs => blkB C b i bs
  | .blkE b e, bs => HA.blkE C b e bs
  | .for_ it tg b, bs => (bevIt C (fun i => nmLs i b) it bs).st fun ys s1 => forGoB tg (bexLs C b) ys s1
  | .ife c a b, bs => (btst C c bs).st fun k s1 => if k = true then bexLs C a s1 else bexLs C b s1
def bexLs (C : Cb) : LSs → BS → BX
  | .nil, bs => .nx bs
  | .cons x r, bs => (bexL C x bs).seq (bexLs C r)
end
theorem RX.seq_nil {C : Cf} (r : RX) : r.seq (exs C .nil) = r := by cases r <;> rfl
theorem eraL_app {C : Cf} {gs : Nat} (x : LS) (r : Ss) (σ : Sl) (h : Hh) : exs C (eraL gs x r) σ h = (exs C (eraL gs x .nil) σ h).seq (exs C r) := by
  cases x with
  | s x =>
    show (ex C x σ h).seq (exs C r) = ((ex C x σ h).seq (exs C .nil)).seq (exs C r)
    rw [RX.seq_nil]
  | blk b i =>
    show exs C (appS _ r) σ h = (exs C (appS _ .nil) σ h).seq (exs C r)
    rw [exs_app (appS b _) r, exs_app (appS b _) .nil, RX.seq_nil]
  | blkE b e =>
    show exs C (appS _ r) σ h = (exs C (appS _ .nil) σ h).seq (exs C r)
    rw [exs_app (appS b _) r, exs_app (appS b _) .nil, RX.seq_nil]
  | for_ it tg b =>
    show (ex C _ σ h).seq (exs C r) = ((ex C _ σ h).seq (exs C .nil)).seq (exs C r)
    rw [RX.seq_nil]
  | ife c a b =>
    show (ex C _ σ h).seq (exs C r) = ((ex C _ σ h).seq (exs C .nil)).seq (exs C r)
    rw [RX.seq_nil]
theorem StOk.one {Ca : Cf} {C : Cb} {nm : Nat → Bool} {s : Sm} {fb : BS → BX} (f : StOk Ca C nm (ex Ca s) fb) : StOk Ca C nm (exs Ca (.cons s .nil)) fb := by
  intro n0 h σ bs O ow sr B
  have : exs Ca (.cons s .nil) σ h = ex Ca s σ h := RX.seq_nil (C := Ca) (ex Ca s σ h)
  rw [this]
  exact f B
mutual
theorem l_B {Ca : Cf} {C : Cb} {gs : Nat} (hn : Ca.ns = C.ns) (hc : CallsOk Ca C) (hm : StmOk Ca C) (hsp : SpAll Ca gs) : ∀ x : LS, StOk Ca C (fun j => nmL j x) (exs Ca (eraL gs x .nil)) (bexL C x)
  | .s x => StOk.one (st_B hn hc hm x)
  | .blk b i => by
    intro B
    show ResX C _ _ _ _ _ _ (exs Ca (appS (appS b _) .nil) _ _) _
    rw [exs_app (appS b _) .nil, RX.seq_nil]
    exact blk_B hn hc hsp b i B
  | .blkE b e => by
    intro B
    show ResX C _ _ _ _ _ _ (exs Ca (appS (appS b _) .nil) _ _) _
    rw [exs_app (appS b _) .nil, RX.seq_nil]
    exact blk_E hn hc hsp b e B
  | .for_ it tg b => StOk.one (s := .for_ it tg (erasL gs b)) (for_B (evIt_B hn hc it) (ls_B hn hc hm hsp b))
  | .ife c a b => StOk.one (s := .ife c (erasL gs a) (erasL gs b)) (ife_S (ev_B hn hc c) (ls_B hn hc hm hsp a) (ls_B hn hc hm hsp b))
theorem ls_B {Ca : Cf} {C : Cb} {gs : Nat} (hn : Ca.ns = C.ns) (hc : CallsOk Ca C) (hm : StmOk Ca C) (hsp : SpAll Ca gs) : ∀ x : LSs, StOk Ca C (fun j => nmLs j x) (exs Ca (erasL gs x)) (bexLs C x)
  | .nil => fun B => ⟨_, _, rfl, _, _, _, B, .refl, fun _ => rfl⟩
  | .cons x r => by
    intro B
    show ResX C _ _ _ _ _ _ (exs Ca (eraL gs x (erasL gs r)) _ _) _
    rw [eraL_app]
    exact seq_B (Ca := Ca) (l_B hn hc hm hsp x) (ls_B hn hc hm hsp r) B
end
/-- a law, by layer B, with its stretches -/
theorem lawL {T : List Df} {dg sg gs k g n : Nat} {L : LSs} (hd : T[dg]? = some ⟨5, 2, b_draw⟩) (hs : T[sg]? = some ⟨1, 1, b_stream⟩) (hp : T[gs]? = some ⟨3, 1, b_spoilt gs⟩) (hk : 21 ≤ k) (hT : T[g]? = some ⟨n, 1, erasL gs L⟩)
    (H : ∀ ns : List Int, ns.length ≤ 63 → ∃ f u st, bexLs ⟨ns, some sg, callB ns dg T k⟩ L ⟨.val .scr false false :: List.replicate (n - 1) .no, ⟨[], 0, 0, 0⟩⟩ = .rt ⟨.bl true, f, u⟩ st) : LawT T (k + 1) g := by
  intro ns hl
  obtain ⟨f, u, st, e⟩ := H ns hl
  have B : BR 0 [] ([some Va.scr] ++ List.replicate (n - 1) none) ⟨.val .scr false false :: List.replicate (n - 1) .no, ⟨[], 0, 0, 0⟩⟩ [] (List.replicate (1 + (n - 1)) none) none := by
    have := start_B (n := n) (h := []) (O := []) (sr := none) (as := [Va.scr]) (xs := [.v ⟨.scr, true, false⟩]) (st := ⟨[], 0, 0, 0⟩) (fun p e => by cases e) (fun l ⟨p, e, _⟩ => by cases e) (fun l z => by cases z) (.v .scr .nil)
    exact this
  have CO : CallsOk ⟨ns, callN ns T k⟩ ⟨ns, some sg, callB ns dg T k⟩ := callB_ok (drawOk_of hd ns) k
  obtain ⟨k, rfl⟩ : ∃ k', k = k' + 1 := ⟨k - 1, by omega⟩
  have R := ls_B (Ca := ⟨ns, callN ns T (k + 1)⟩) (C := ⟨ns, some sg, callB ns dg T (k + 1)⟩) rfl CO (stmOk_of hs) (spAll_of hp (by omega)) L B
  rw [e] at R
  obtain ⟨v', h', O', ow', sr', e1, _, _, _, q⟩ := R
  refine ⟨h', ?_⟩
  show (match T[g]? with
    | some d => runDf ⟨ns, callN ns T (k + 1)⟩ d [.scr] []
    | none => .bad) = _
  rw [hT]
  simp only []
  unfold runDf
  rw [if_pos (show [Va.scr].length = 1 from rfl)]
  have e2 : exs ⟨ns, callN ns T (k + 1)⟩ (erasL gs L) ([Va.scr].map some ++ List.replicate (n - [Va.scr].length) none) [] = .rt v' h' := e1
  rw [e2]
  simp only []
  unfold RetP at q
  split at q
  · obtain ⟨m, _⟩ := q
    cases m
  · cases q
    rfl
end HA

namespace HA
open PySem PySem.Spec PyProof.Rows L2

/-! ### streams -/
structure StG (c : Int) (st : Strm) : Prop where
  c0 : 0 ≤ st.cnt
  c1 : st.cnt ≤ c
  x0 : 0 ≤ st.mix
  x1 : st.mix < 2147483648
  rl : st.rest.length ≤ 64
theorem StG.up {c c' : Int} {st : Strm} (g : StG c st) (w : c ≤ c') : StG c' st := ⟨g.c0, by have := g.c1; omega, g.x0, g.x1, g.rl⟩
theorem feed_len : ∀ (r : List Int) (a c : Int), (feed r a c).1.length ≤ r.length
  | [], a, c => Nat.le_refl _
  | x :: r, a, c => by
    unfold feed
    split
    · exact Nat.le_succ_of_le (feed_len r _ _)
    · exact Nat.le_refl _
theorem draw_ok {c m : Int} {st : Strm} (g : StG c st) (hc : c < CNT) (h0 : 0 < m) (h1 : m < 1073741824) : ∃ i st', drawS st m = some (i, st') ∧ 0 ≤ i ∧ i < m ∧ StG (c + 1) st' := by
  have fm := feed_mix st.rest st.cur st.mix g.x0 g.x1
  have fl := feed_len st.rest st.cur st.mix
  have := g.c0
  have := g.c1
  have := g.rl
  unfold drawS
  rw [if_pos ⟨pin_iff.mpr ⟨h0, by omega⟩, g.c0, by omega, g.x0, g.x1, g.rl⟩]
  simp only []
  split
  · exact ⟨_, _, rfl, Int.emod_nonneg _ (by omega), Int.emod_lt_of_pos _ h0, ⟨by show 0 ≤ st.cnt + 1; omega, by show st.cnt + 1 ≤ c + 1; omega, fm.1, fm.2, by show (feed _ _ _).1.length ≤ 64; omega⟩⟩
  · exact ⟨_, _, rfl, Int.emod_nonneg _ (by omega), Int.emod_lt_of_pos _ h0, ⟨by show 0 ≤ st.cnt + 1; omega, by show st.cnt + 1 ≤ c + 1; omega, fm.1, fm.2, by show (feed _ _ _).1.length ≤ 64; omega⟩⟩

/-! ### calls -/
section
variable {ns : List Int} {dg : Nat} {T : List Df}
theorem call_draw {k : Nat} {st : Strm} {m i : Int} {f u : Bool} {st' : Strm} (hk : 1 ≤ k) (e : drawS st m = some (i, st')) : callB ns dg T k dg [.s, .v ⟨.int m, f, u⟩] st = .ok ⟨.int i, true, false⟩ st' := by
  obtain ⟨k, rfl⟩ : ∃ j, k = j + 1 := ⟨k - 1, by omega⟩
  unfold callB
  rw [if_pos rfl]
  simp only [e]
theorem call_go {k g : Nat} {d : Df} {as : List Ar} {st : Strm} (hg : g ≠ dg) (hT : T[g]? = some d) : callB ns dg T (k + 1) g as st = runB ⟨ns, none, callB ns dg T k⟩ d as st := by
  show (if g = dg then _ else _) = _
  rw [if_neg hg, hT]
end
theorem run_rt {C : Cb} {d : Df} {as : List Ar} {st st' : Strm} {v : Lv} (hl : as.length = d.ps) (e : bexs C d.body ⟨as.map arS ++ List.replicate (d.n - as.length) .no, st⟩ = .rt v st') : runB C d as st = .ok v st' := by
  unfold runB
  rw [if_pos hl, e]
theorem run_nx {C : Cb} {d : Df} {as : List Ar} {st : Strm} {s : BS} (hl : as.length = d.ps) (e : bexs C d.body ⟨as.map arS ++ List.replicate (d.n - as.length) .no, st⟩ = .nx s) : runB C d as st = .ok ⟨.non, true, false⟩ s.st := by
  unfold runB
  rw [if_pos hl, e]

/-! ### statements one by one -/
section
variable {C : Cb} {bs bs1 : BS}
theorem b_nx {s : Sm} {r : Ss} (e : bex C s bs = .nx bs1) : bexs C (.cons s r) bs = bexs C r bs1 := by
  show (bex C s bs).seq (bexs C r) = _
  rw [e]
  rfl
theorem b_rt {s : Sm} {r : Ss} {v : Lv} {st : Strm} (e : bex C s bs = .rt v st) : bexs C (.cons s r) bs = .rt v st := by
  show (bex C s bs).seq (bexs C r) = _
  rw [e]
  rfl
theorem b_ife {c : E} {a b : Ss} {k : Bool} (e : btst C c bs = .ok k bs1) : bex C (.ife c a b) bs = if k = true then bexs C a bs1 else bexs C b bs1 := by
  show (btst C c bs).st _ = _
  rw [e]
  rfl
theorem b_asg {tg : Tg} {e : E} {v : Lv} (hne : ∀ i g as, tg = .nm i → e = .call g as → C.sg ≠ some g) (h : bev C e bs = .ok v bs1) : bex C (.asg tg e) bs = nxB (tgYB tg (.one v) bs1.sl) bs1.st := by
  have gen : ((bev C e bs).st fun v s1 => nxB (tgYB tg (.one v) s1.sl) s1.st) = nxB (tgYB tg (.one v) bs1.sl) bs1.st := by
    rw [h]
    rfl
  unfold bex
  split
  · rw [if_neg (hne _ _ _ rfl rfl)]
    exact gen
  · exact gen
end
/-! ### parts, by their sort -/
section
variable {r : BS → RB Lv} {bs : BS}
@[simp] theorem pT_var {i : Nat} : preT (.var i) r bs = match bs.sl[i]? with
  | some (.val _ _ _) => .ok (.inl i) bs
  | _ => .bad := rfl
@[simp] theorem pA_var {i : Nat} : preA (.var i) r bs = match bs.sl[i]? with
  | some .st => .ok .s bs
  | _ => (r bs).bind fun x s => .ok (.v x) s := rfl
@[simp] theorem sT_var {i : Nat} {nm : Nat → Bool} : srcT (.var i) r nm bs = if nm i = true then preT (.var i) r bs else (r bs).bind fun x s => .ok (.inr x) s := rfl
@[simp] theorem pT_cst (v : Va) : preT (.cst v) r bs = (r bs).bind fun x s => .ok (.inr x) s := rfl
@[simp] theorem pA_cst (v : Va) : preA (.cst v) r bs = (r bs).bind fun x s => .ok (.v x) s := rfl
@[simp] theorem sT_cst (v : Va) {nm : Nat → Bool} : srcT (.cst v) r nm bs = (r bs).bind fun x s => .ok (.inr x) s := rfl
@[simp] theorem pT_bin (o : Bo) (a b : E) : preT (.bin o a b) r bs = (r bs).bind fun x s => .ok (.inr x) s := rfl
@[simp] theorem pA_bin (o : Bo) (a b : E) : preA (.bin o a b) r bs = (r bs).bind fun x s => .ok (.v x) s := rfl
@[simp] theorem sT_bin (o : Bo) (a b : E) {nm : Nat → Bool} : srcT (.bin o a b) r nm bs = (r bs).bind fun x s => .ok (.inr x) s := rfl
@[simp] theorem pT_neg (a : E) : preT (.neg a) r bs = (r bs).bind fun x s => .ok (.inr x) s := rfl
@[simp] theorem pA_neg (a : E) : preA (.neg a) r bs = (r bs).bind fun x s => .ok (.v x) s := rfl
@[simp] theorem sT_neg (a : E) {nm : Nat → Bool} : srcT (.neg a) r nm bs = (r bs).bind fun x s => .ok (.inr x) s := rfl
@[simp] theorem pT_not (a : E) : preT (.not a) r bs = (r bs).bind fun x s => .ok (.inr x) s := rfl
@[simp] theorem pA_not (a : E) : preA (.not a) r bs = (r bs).bind fun x s => .ok (.v x) s := rfl
@[simp] theorem sT_not (a : E) {nm : Nat → Bool} : srcT (.not a) r nm bs = (r bs).bind fun x s => .ok (.inr x) s := rfl
@[simp] theorem pT_and (a b : E) : preT (.and a b) r bs = (r bs).bind fun x s => .ok (.inr x) s := rfl
@[simp] theorem pA_and (a b : E) : preA (.and a b) r bs = (r bs).bind fun x s => .ok (.v x) s := rfl
@[simp] theorem sT_and (a b : E) {nm : Nat → Bool} : srcT (.and a b) r nm bs = (r bs).bind fun x s => .ok (.inr x) s := rfl
@[simp] theorem pT_or (a b : E) : preT (.or a b) r bs = (r bs).bind fun x s => .ok (.inr x) s := rfl
@[simp] theorem pA_or (a b : E) : preA (.or a b) r bs = (r bs).bind fun x s => .ok (.v x) s := rfl
@[simp] theorem sT_or (a b : E) {nm : Nat → Bool} : srcT (.or a b) r nm bs = (r bs).bind fun x s => .ok (.inr x) s := rfl
@[simp] theorem pT_cmp (o : Co) (a b : E) : preT (.cmp o a b) r bs = (r bs).bind fun x s => .ok (.inr x) s := rfl
@[simp] theorem pA_cmp (o : Co) (a b : E) : preA (.cmp o a b) r bs = (r bs).bind fun x s => .ok (.v x) s := rfl
@[simp] theorem sT_cmp (o : Co) (a b : E) {nm : Nat → Bool} : srcT (.cmp o a b) r nm bs = (r bs).bind fun x s => .ok (.inr x) s := rfl
@[simp] theorem pT_chn (o p : Co) (a b c : E) : preT (.chn o p a b c) r bs = (r bs).bind fun x s => .ok (.inr x) s := rfl
@[simp] theorem pA_chn (o p : Co) (a b c : E) : preA (.chn o p a b c) r bs = (r bs).bind fun x s => .ok (.v x) s := rfl
@[simp] theorem sT_chn (o p : Co) (a b c : E) {nm : Nat → Bool} : srcT (.chn o p a b c) r nm bs = (r bs).bind fun x s => .ok (.inr x) s := rfl
@[simp] theorem pT_isN (n : Bool) (a : E) : preT (.isN n a) r bs = (r bs).bind fun x s => .ok (.inr x) s := rfl
@[simp] theorem pA_isN (n : Bool) (a : E) : preA (.isN n a) r bs = (r bs).bind fun x s => .ok (.v x) s := rfl
@[simp] theorem sT_isN (n : Bool) (a : E) {nm : Nat → Bool} : srcT (.isN n a) r nm bs = (r bs).bind fun x s => .ok (.inr x) s := rfl
@[simp] theorem pT_ife (t a b : E) : preT (.ife t a b) r bs = (r bs).bind fun x s => .ok (.inr x) s := rfl
@[simp] theorem pA_ife (t a b : E) : preA (.ife t a b) r bs = (r bs).bind fun x s => .ok (.v x) s := rfl
@[simp] theorem sT_ife (t a b : E) {nm : Nat → Bool} : srcT (.ife t a b) r nm bs = (r bs).bind fun x s => .ok (.inr x) s := rfl
@[simp] theorem pT_inst (a : E) (ts : List Ty) : preT (.inst a ts) r bs = (r bs).bind fun x s => .ok (.inr x) s := rfl
@[simp] theorem pA_inst (a : E) (ts : List Ty) : preA (.inst a ts) r bs = (r bs).bind fun x s => .ok (.v x) s := rfl
@[simp] theorem sT_inst (a : E) (ts : List Ty) {nm : Nat → Bool} : srcT (.inst a ts) r nm bs = (r bs).bind fun x s => .ok (.inr x) s := rfl
@[simp] theorem pT_call (g : Nat) (as : Es) : preT (.call g as) r bs = (r bs).bind fun x s => .ok (.inr x) s := rfl
@[simp] theorem pA_call (g : Nat) (as : Es) : preA (.call g as) r bs = (r bs).bind fun x s => .ok (.v x) s := rfl
@[simp] theorem sT_call (g : Nat) (as : Es) {nm : Nat → Bool} : srcT (.call g as) r nm bs = (r bs).bind fun x s => .ok (.inr x) s := rfl
@[simp] theorem pT_callk (g : Nat) (as ks : Es) (pm : List Nat) : preT (.callk g as ks pm) r bs = (r bs).bind fun x s => .ok (.inr x) s := rfl
@[simp] theorem pA_callk (g : Nat) (as ks : Es) (pm : List Nat) : preA (.callk g as ks pm) r bs = (r bs).bind fun x s => .ok (.v x) s := rfl
@[simp] theorem sT_callk (g : Nat) (as ks : Es) (pm : List Nat) {nm : Nat → Bool} : srcT (.callk g as ks pm) r nm bs = (r bs).bind fun x s => .ok (.inr x) s := rfl
@[simp] theorem pT_bi (b : Bi) (as : Es) : preT (.bi b as) r bs = (r bs).bind fun x s => .ok (.inr x) s := rfl
@[simp] theorem pA_bi (b : Bi) (as : Es) : preA (.bi b as) r bs = (r bs).bind fun x s => .ok (.v x) s := rfl
@[simp] theorem sT_bi (b : Bi) (as : Es) {nm : Nat → Bool} : srcT (.bi b as) r nm bs = (r bs).bind fun x s => .ok (.inr x) s := rfl
@[simp] theorem pT_mth (m : Mt) (o : E) (as : Es) : preT (.mth m o as) r bs = (r bs).bind fun x s => .ok (.inr x) s := rfl
@[simp] theorem pA_mth (m : Mt) (o : E) (as : Es) : preA (.mth m o as) r bs = (r bs).bind fun x s => .ok (.v x) s := rfl
@[simp] theorem sT_mth (m : Mt) (o : E) (as : Es) {nm : Nat → Bool} : srcT (.mth m o as) r nm bs = (r bs).bind fun x s => .ok (.inr x) s := rfl
@[simp] theorem pT_idx (a i : E) : preT (.idx a i) r bs = (r bs).bind fun x s => .ok (.inr x) s := rfl
@[simp] theorem pA_idx (a i : E) : preA (.idx a i) r bs = (r bs).bind fun x s => .ok (.v x) s := rfl
@[simp] theorem sT_idx (a i : E) {nm : Nat → Bool} : srcT (.idx a i) r nm bs = (r bs).bind fun x s => .ok (.inr x) s := rfl
@[simp] theorem pT_slc (a : E) (lo hi : Es) : preT (.slc a lo hi) r bs = (r bs).bind fun x s => .ok (.inr x) s := rfl
@[simp] theorem pA_slc (a : E) (lo hi : Es) : preA (.slc a lo hi) r bs = (r bs).bind fun x s => .ok (.v x) s := rfl
@[simp] theorem sT_slc (a : E) (lo hi : Es) {nm : Nat → Bool} : srcT (.slc a lo hi) r nm bs = (r bs).bind fun x s => .ok (.inr x) s := rfl
@[simp] theorem pT_rev (a : E) : preT (.rev a) r bs = (r bs).bind fun x s => .ok (.inr x) s := rfl
@[simp] theorem pA_rev (a : E) : preA (.rev a) r bs = (r bs).bind fun x s => .ok (.v x) s := rfl
@[simp] theorem sT_rev (a : E) {nm : Nat → Bool} : srcT (.rev a) r nm bs = (r bs).bind fun x s => .ok (.inr x) s := rfl
@[simp] theorem pT_lst (as : Es) : preT (.lst as) r bs = (r bs).bind fun x s => .ok (.inr x) s := rfl
@[simp] theorem pA_lst (as : Es) : preA (.lst as) r bs = (r bs).bind fun x s => .ok (.v x) s := rfl
@[simp] theorem sT_lst (as : Es) {nm : Nat → Bool} : srcT (.lst as) r nm bs = (r bs).bind fun x s => .ok (.inr x) s := rfl
@[simp] theorem pT_tup (as : Es) : preT (.tup as) r bs = (r bs).bind fun x s => .ok (.inr x) s := rfl
@[simp] theorem pA_tup (as : Es) : preA (.tup as) r bs = (r bs).bind fun x s => .ok (.v x) s := rfl
@[simp] theorem sT_tup (as : Es) {nm : Nat → Bool} : srcT (.tup as) r nm bs = (r bs).bind fun x s => .ok (.inr x) s := rfl
@[simp] theorem pT_dnew  : preT (.dnew ) r bs = (r bs).bind fun x s => .ok (.inr x) s := rfl
@[simp] theorem pA_dnew  : preA (.dnew ) r bs = (r bs).bind fun x s => .ok (.v x) s := rfl
@[simp] theorem sT_dnew  {nm : Nat → Bool} : srcT (.dnew ) r nm bs = (r bs).bind fun x s => .ok (.inr x) s := rfl
@[simp] theorem pT_items (a : E) : preT (.items a) r bs = (r bs).bind fun x s => .ok (.inr x) s := rfl
@[simp] theorem pA_items (a : E) : preA (.items a) r bs = (r bs).bind fun x s => .ok (.v x) s := rfl
@[simp] theorem sT_items (a : E) {nm : Nat → Bool} : srcT (.items a) r nm bs = (r bs).bind fun x s => .ok (.inr x) s := rfl
@[simp] theorem pT_lrng (as : Es) : preT (.lrng as) r bs = (r bs).bind fun x s => .ok (.inr x) s := rfl
@[simp] theorem pA_lrng (as : Es) : preA (.lrng as) r bs = (r bs).bind fun x s => .ok (.v x) s := rfl
@[simp] theorem sT_lrng (as : Es) {nm : Nat → Bool} : srcT (.lrng as) r nm bs = (r bs).bind fun x s => .ok (.inr x) s := rfl
@[simp] theorem pT_comp (it : It) (own : List Nat) (tg : Tg) (cs : Es) (e : E) : preT (.comp it own tg cs e) r bs = (r bs).bind fun x s => .ok (.inr x) s := rfl
@[simp] theorem pA_comp (it : It) (own : List Nat) (tg : Tg) (cs : Es) (e : E) : preA (.comp it own tg cs e) r bs = (r bs).bind fun x s => .ok (.v x) s := rfl
@[simp] theorem sT_comp (it : It) (own : List Nat) (tg : Tg) (cs : Es) (e : E) {nm : Nat → Bool} : srcT (.comp it own tg cs e) r nm bs = (r bs).bind fun x s => .ok (.inr x) s := rfl
end
@[simp] theorem big_0 : (0 ≤ BIG) = True := eq_true (by decide)
@[simp] theorem big_1 : (1 ≤ BIG) = True := eq_true (by decide)
@[simp] theorem big_2 : (2 ≤ BIG) = True := eq_true (by decide)
@[simp] theorem big_3 : (3 ≤ BIG) = True := eq_true (by decide)
@[simp] theorem big_4 : (4 ≤ BIG) = True := eq_true (by decide)
@[simp] theorem big_5 : (5 ≤ BIG) = True := eq_true (by decide)
@[simp] theorem big_6 : (6 ≤ BIG) = True := eq_true (by decide)
@[simp] theorem big_7 : (7 ≤ BIG) = True := eq_true (by decide)
@[simp] theorem big_8 : (8 ≤ BIG) = True := eq_true (by decide)
@[simp] theorem big_9 : (9 ≤ BIG) = True := eq_true (by decide)
@[simp] theorem big_10 : (10 ≤ BIG) = True := eq_true (by decide)
@[simp] theorem big_11 : (11 ≤ BIG) = True := eq_true (by decide)
@[simp] theorem big_12 : (12 ≤ BIG) = True := eq_true (by decide)
end HA

namespace HA
open PySem PySem.Spec PyProof.Rows L2

/-! ### loops -/
theorem for_ret {tg : Tg} {body : BS → BX} (R : Lv → Strm → Prop) : ∀ (ys : List Yb) (P : Nat → BS → Prop), (∀ i y bs, ys[i]? = some y → P i bs → ∃ sl, tgYB tg y bs.sl = some sl ∧ ((∃ bs', (body ⟨sl, bs.st⟩ = .nx bs' ∨ body ⟨sl, bs.st⟩ = .ct bs') ∧ P (i + 1) bs') ∨ ∃ v st, body ⟨sl, bs.st⟩ = .rt v st ∧ R v st)) →
    ∀ bs, P 0 bs → (∃ bs', forGoB tg body ys bs = .nx bs' ∧ P ys.length bs') ∨ ∃ v st, forGoB tg body ys bs = .rt v st ∧ R v st
  | [], P, step, bs, h => .inl ⟨bs, rfl, h⟩
  | y :: ys, P, step, bs, h => by
    obtain ⟨sl, e, q⟩ := step 0 y bs rfl h
    rcases q with ⟨bs', e2, h2⟩ | ⟨v, st, e2, r⟩
    · have r := for_ret (tg := tg) (body := body) R ys (fun i => P (i + 1)) (fun i y bs hy hp => step (i + 1) y bs hy hp) bs' h2
      have e3 : forGoB tg body (y :: ys) bs = forGoB tg body ys bs' := by
        show (match tgYB tg y bs.sl with
          | some σ => turnB (body ⟨σ, bs.st⟩) (forGoB tg body ys)
          | none => .bad) = _
        rw [e]
        rcases e2 with e2 | e2
        · show turnB (body ⟨sl, bs.st⟩) _ = _
          rw [e2]; rfl
        · show turnB (body ⟨sl, bs.st⟩) _ = _
          rw [e2]; rfl
      rw [e3]
      exact r
    · refine .inr ⟨v, st, ?_, r⟩
      show (match tgYB tg y bs.sl with
        | some σ => turnB (body ⟨σ, bs.st⟩) (forGoB tg body ys)
        | none => .bad) = _
      rw [e]
      show turnB (body ⟨sl, bs.st⟩) _ = _
      rw [e2]; rfl
theorem for_inv {tg : Tg} {body : BS → BX} (P : Nat → BS → Prop) (ys : List Yb) (step : ∀ i y bs, ys[i]? = some y → P i bs → ∃ sl bs', tgYB tg y bs.sl = some sl ∧ (body ⟨sl, bs.st⟩ = .nx bs' ∨ body ⟨sl, bs.st⟩ = .ct bs') ∧ P (i + 1) bs') {bs : BS} (h : P 0 bs) : ∃ bs', forGoB tg body ys bs = .nx bs' ∧ P ys.length bs' := by
  rcases for_ret (fun _ _ => False) ys P (fun i y bs hy hp => by
    obtain ⟨sl, bs', e, q, r⟩ := step i y bs hy hp
    exact ⟨sl, e, .inl ⟨bs', q, r⟩⟩) bs h with r | ⟨_, _, _, r⟩
  · exact r
  · exact r.elim
theorem comp_inv {body : Yb → BS → RB (Option Lv)} : ∀ (ys : List Yb) (P : Nat → List Tr → BS → Prop), (∀ i y acc bs, ys[i]? = some y → P i acc bs → ∃ v bs', body y bs = .ok (some v) bs' ∧ P (i + 1) (acc ++ [v.t]) bs') →
    ∀ acc f bs, acc.length + ys.length ≤ BIG → P 0 acc bs → ∃ acc' f' bs', compGoB body ys acc f bs = .ok ⟨.lst acc', f', true⟩ bs' ∧ P ys.length acc' bs'
  | [], P, step, acc, f, bs, hl, h => ⟨acc, f, bs, rfl, h⟩
  | y :: ys, P, step, acc, f, bs, hl, h => by
    obtain ⟨v, bs', e, h2⟩ := step 0 y acc bs rfl h
    rw [List.length_cons] at hl
    obtain ⟨acc', f', bs'', e2, h3⟩ := comp_inv ys (fun i => P (i + 1)) (fun i y acc bs hy hp => step (i + 1) y acc bs hy hp) (acc ++ [v.t]) (f && v.fr) bs' (by rw [List.length_append, List.length_singleton]; omega) h2
    refine ⟨acc', f', bs'', ?_, h3⟩
    show (body y bs).bind _ = _
    rw [e]
    show (if acc.length < BIG then compGoB body ys (acc ++ [v.t]) (f && v.fr) bs' else .bad) = _
    rw [if_pos (by omega)]
    exact e2
theorem comp_pure {body : Yb → BS → RB (Option Lv)} {bs : BS} (g : Yb → Option Lv) : ∀ (ys : List Yb) (acc : List Tr) (f : Bool), (∀ y ∈ ys, body y bs = .ok (g y) bs) → acc.length + ys.length ≤ BIG →
    compGoB body ys acc f bs = .ok ⟨.lst (acc ++ (ys.filterMap g).map (·.t)), f && (ys.filterMap g).all (·.fr), true⟩ bs
  | [], acc, f, h, hl => by simp [compGoB]
  | y :: ys, acc, f, h, hl => by
    rw [List.length_cons] at hl
    show (body y bs).bind _ = _
    rw [h y List.mem_cons_self]
    cases q : g y with
    | none =>
      show compGoB body ys acc f bs = _
      rw [comp_pure g ys acc f (fun y m => h y (List.mem_cons_of_mem _ m)) (by omega)]
      simp [q]
    | some v =>
      show (if acc.length < BIG then compGoB body ys (acc ++ [v.t]) (f && v.fr) bs else .bad) = _
      rw [if_pos (by omega), comp_pure g ys (acc ++ [v.t]) (f && v.fr) (fun y m => h y (List.mem_cons_of_mem _ m)) (by rw [List.length_append, List.length_singleton]; omega)]
      simp [q, Bool.and_assoc]

/-! ### ints, lists of ints -/
abbrev vL (l : List Int) : Tr := .lst (l.map .int)
abbrev vT (l : List Int) : Tr := .tup (l.map .int)
theorem datG_ints (n : Nat) : ∀ l : List Int, datG (datT n) (l.map .int) = some (l.map .int)
  | [] => rfl
  | i :: l => by
    have e : datT n (.int i) = some (.int i) := by cases n <;> rfl
    simp only [List.map_cons, datG, e, datG_ints n l]
theorem dat_vL (n : Nat) (l : List Int) : datT (n + 1) (vL l) = some (.list (l.map .int)) := by
  unfold datT
  rw [datG_ints]
theorem dat_vT (n : Nat) (l : List Int) : datT (n + 1) (vT l) = some (.tuple (l.map .int)) := by
  unfold datT
  rw [datG_ints]
theorem eqT_int (ng : Bool) (i j : Int) : eqT ng (.int i) (.int j) = some (ng ^^ decide (i = j)) := by
  have e : ∀ i, datT DD (.int i) = some (.int i) := fun _ => rfl
  unfold eqT
  simp only [e, sh_int, and_self, if_true, PyData.eqv]
  congr 2
theorem sh_bl (b : Bool) : SeqAt.shaped (.bool b) = true := by
  unfold SeqAt.shaped
  simp [PyData.canLay0, PyData.depth]
theorem eqT_bl (ng : Bool) (i j : Bool) : eqT ng (.bl i) (.bl j) = some (ng ^^ (i == j)) := by
  have e : ∀ i, datT DD (.bl i) = some (.bool i) := fun _ => rfl
  unfold eqT
  simp only [e, sh_bl, and_self, if_true, PyData.eqv]
theorem intsT_ints : ∀ l : List Int, intsT (l.map .int) = some l
  | [] => rfl
  | i :: l => by
    show (match intsT (l.map .int) with
      | some l => some (i :: l)
      | none => none) = _
    rw [intsT_ints l]
theorem blsT_bls : ∀ l : List Bool, blsT (l.map .bl) = some l
  | [] => rfl
  | i :: l => by
    show (match blsT (l.map .bl) with
      | some l => some (i :: l)
      | none => none) = _
    rw [blsT_bls l]
theorem okTs_ints : ∀ l : List Int, okTs (l.map .int) = true ∧ depTs (l.map .int) = 0 ∧ wTs (l.map .int) = 0 ∧ mxTs (l.map .int) = 0
  | [] => ⟨rfl, rfl, rfl, rfl⟩
  | i :: l => by
    obtain ⟨a, b, c, d⟩ := okTs_ints l
    refine ⟨?_, ?_, ?_, ?_⟩
    · show (okT (.int i) && okTs (l.map .int)) = true
      rw [a]; rfl
    · show max (depT (.int i)) (depTs (l.map .int)) = 0
      rw [b]; rfl
    · show wT (.int i) + wTs (l.map .int) = 0
      rw [c]; rfl
    · show max (mxT (.int i)) (mxTs (l.map .int)) = 0
      rw [d]; rfl
end HA

namespace HA
open PySem PySem.Spec PyProof.Rows L2

/-! ### the same? -/
def e_same (g : Nat) : E := .comp (.zip (.var 0) (.var 1)) [2, 3] (.tp (.nm 2) (.tp (.nm 3) .te)) .nil (.call g (.cons (.var 2) (.cons (.var 3) .nil)))
def b_same (g : Nat) : Ss := (.cons (.ife (.inst (.var 1) [.list, .tuple]) (.cons (.ife (.or (.cmp .ne (.inst (.var 0) [.list]) (.inst (.var 1) [.list])) (.cmp .ne (.inst (.var 0) [.tuple]) (.inst (.var 1) [.tuple]))) (.cons (.ret (.cst (.bl false))) .nil) .nil)
    (.cons (.ret (.and (.cmp .eq (.bi .len (.cons (.var 0) .nil)) (.bi .len (.cons (.var 1) .nil))) (.bi .all (.cons (e_same g) .nil)))) .nil)) .nil)
    (.cons (.ife (.inst (.var 1) [.dict]) (.cons (.ret (.and (.inst (.var 0) [.dict]) (.call g (.cons (.items (.var 0)) (.cons (.items (.var 1)) .nil))))) .nil) .nil)
    (.cons (.ife (.or (.inst (.var 1) [.bool]) (.inst (.var 0) [.bool])) (.cons (.ret (.and (.inst (.var 1) [.bool]) (.and (.inst (.var 0) [.bool]) (.cmp .eq (.var 0) (.var 1))))) .nil) .nil)
    (.cons (.ife (.or (.isN false (.var 1)) (.isN false (.var 0))) (.cons (.ret (.and (.isN false (.var 1)) (.isN false (.var 0)))) .nil) .nil)
    (.cons (.ife (.or (.cmp .ne (.inst (.var 1) [.int]) (.inst (.var 0) [.int])) (.cmp .ne (.inst (.var 1) [.str]) (.inst (.var 0) [.str]))) (.cons (.ret (.cst (.bl false))) .nil) .nil)
    (.cons (.ret (.and (.not (.inst (.var 0) [.list, .tuple, .dict])) (.cmp .eq (.var 0) (.var 1)))) .nil))))))
mutual
def eqOk : Tr → Bool
  | .non => true
  | .bl _ => true
  | .int _ => true
  | .str x => PyData.strOk x
  | .lst ts => eqOks ts
  | .tup ts => eqOks ts
  | _ => false
def eqOks : List Tr → Bool
  | [] => true
  | t :: ts => eqOk t && eqOks ts
end
theorem eqOks_mem : ∀ {ts : List Tr} {t : Tr}, eqOks ts = true → t ∈ ts → eqOk t = true
  | [], t, _, m => by cases m
  | x :: ts, t, e, m => by
    have e : (eqOk x && eqOks ts) = true := e
    rw [Bool.and_eq_true] at e
    rcases List.mem_cons.mp m with rfl | m
    · exact e.1
    · exact eqOks_mem e.2 m
theorem depTs_mem : ∀ {ts : List Tr} {t : Tr}, t ∈ ts → depT t ≤ depTs ts
  | x :: ts, t, m => by
    rcases List.mem_cons.mp m with rfl | m
    · exact Nat.le_max_left _ _
    · exact Nat.le_trans (depTs_mem m) (Nat.le_max_right _ _)
theorem mxTs_mem : ∀ {ts : List Tr} {t : Tr}, t ∈ ts → mxT t ≤ mxTs ts
  | x :: ts, t, m => by
    rcases List.mem_cons.mp m with rfl | m
    · exact Nat.le_max_left _ _
    · exact Nat.le_trans (mxTs_mem m) (Nat.le_max_right _ _)
theorem zip_same {α β γ : Type} {f : α → β} {g : α → γ} {xs : List α} {p : β × γ} (m : p ∈ (xs.map f).zip (xs.map g)) : ∃ x, x ∈ xs ∧ p = (f x, g x) := by
  induction xs with
  | nil => cases m
  | cons x xs ih =>
    rcases List.mem_cons.mp m with rfl | m
    · exact ⟨x, List.mem_cons_self, rfl⟩
    · obtain ⟨y, h, e⟩ := ih m
      exact ⟨y, List.mem_cons_of_mem _ h, e⟩
theorem fm_const {α β : Type} (v : β) : ∀ ys : List α, ys.filterMap (fun _ => some v) = List.replicate ys.length v
  | [] => rfl
  | y :: ys => by
    show v :: ys.filterMap _ = _
    rw [fm_const v ys]; rfl
theorem sh_str {x : Str} (h : PyData.strOk x = true) : SeqAt.shaped (.str x) = true := by
  unfold SeqAt.shaped
  simp [PyData.canLay0, PyData.depth, h]
theorem eqT_str {x : Str} (h : PyData.strOk x = true) (ng : Bool) : eqT ng (.str x) (.str x) = some (!ng) := by
  have e : datT DD (.str x) = some (.str x) := rfl
  unfold eqT
  simp only [e, sh_str h, and_self, if_true, PyData.eqv]
  simp
section
variable {C : Cb} {st : Strm} {f1 f2 : Bool} {g : Nat}
theorem same_int {i : Int} : bexs C (b_same g) ⟨[.val (.int i) false f1, .val (.int i) false f2, .no, .no], st⟩ = .rt ⟨.bl true, true, false⟩ st := by
  simp [b_same, bexs, bex, bev, btst, RB.bind, RB.st, op1, finT, instT, tyT, isTyT, blB, truB, liftB, truT, BX.seq, cmpT, eqT_bl, eqT_int, isNonT]
theorem same_bl {i : Bool} : bexs C (b_same g) ⟨[.val (.bl i) false f1, .val (.bl i) false f2, .no, .no], st⟩ = .rt ⟨.bl true, true, false⟩ st := by
  simp [b_same, bexs, bex, bev, btst, RB.bind, RB.st, op1, finT, instT, tyT, isTyT, blB, truB, liftB, truT, BX.seq, cmpT, eqT_bl, eqT_int, isNonT]
theorem same_non : bexs C (b_same g) ⟨[.val .non false f1, .val .non false f2, .no, .no], st⟩ = .rt ⟨.bl true, true, false⟩ st := by
  simp [b_same, bexs, bex, bev, btst, RB.bind, RB.st, op1, finT, instT, tyT, isTyT, blB, truB, liftB, truT, BX.seq, cmpT, eqT_bl, eqT_int, isNonT]
theorem same_str {x : Str} (h : PyData.strOk x = true) : bexs C (b_same g) ⟨[.val (.str x) false f1, .val (.str x) false f2, .no, .no], st⟩ = .rt ⟨.bl true, true, false⟩ st := by
  simp [b_same, bexs, bex, bev, btst, RB.bind, RB.st, op1, finT, instT, tyT, isTyT, blB, truB, liftB, truT, BX.seq, cmpT, eqT_bl, eqT_str h, isNonT]
end
theorem same_comp {C : Cb} {g : Nat} {st : Strm} {t u : Tr} {f1 f2 : Bool} {xs : List Tr} (hl : xs.length ≤ BIG) (h : ∀ x, x ∈ xs → ∀ f1 u1 f2 u2, C.call g [.v ⟨x, f1, u1⟩, .v ⟨x, f2, u2⟩] st = .ok ⟨.bl true, true, false⟩ st) (bs : BS) (hb : bs = ⟨[.val t false f1, .val u false f2, .no, .no], st⟩) (a b : Bool) :
    compGoB (compBodyB [2, 3] (.tp (.nm 2) (.tp (.nm 3) .te)) (fun s => .ok true s) (bev C (.call g (.cons (.var 2) (.cons (.var 3) .nil))))) (((xs.map fun x => mkOld x a).zip (xs.map fun x => mkOld x b)).map fun p => Yb.two p.1 p.2) [] true bs = .ok ⟨.lst (List.replicate xs.length (.bl true)), true, true⟩ bs := by
  have len : (((xs.map fun x => mkOld x a).zip (xs.map fun x => mkOld x b)).map fun p => Yb.two p.1 p.2).length = xs.length := by simp
  rw [comp_pure (fun _ => some ⟨.bl true, true, false⟩)]
  · rw [fm_const, len]
    simp
  · intro y hy
    obtain ⟨p, hp, rfl⟩ := List.mem_map.mp hy
    obtain ⟨x, hx, rfl⟩ := zip_same hp
    subst hb
    simp [compBodyB, tgSlots, tgYB, tgB, spreadB, wipeB, RB.bind, bev, bevA, mkOld, h x hx, RC.to, backB]
  · rw [len]
    simpa using hl
theorem blsT_rep (n : Nat) : blsT (List.replicate n (.bl true)) = some (List.replicate n true) := by
  have := blsT_bls (List.replicate n true)
  rwa [List.map_replicate] at this
section
variable {C : Cb} {g : Nat} {st : Strm} {f1 f2 : Bool} {xs : List Tr}
theorem same_lst (hl : xs.length ≤ BIG) (h : ∀ x, x ∈ xs → ∀ f1 u1 f2 u2, C.call g [.v ⟨x, f1, u1⟩, .v ⟨x, f2, u2⟩] st = .ok ⟨.bl true, true, false⟩ st) :
    bexs C (b_same g) ⟨[.val (.lst xs) false f1, .val (.lst xs) false f2, .no, .no], st⟩ = .rt ⟨.bl true, true, false⟩ st := by
  have this : preT (e_same g) (bev C (e_same g)) ⟨[.val (.lst xs) false f1, .val (.lst xs) false f2, .no, .no], st⟩ = .ok (.inr ⟨.lst (List.replicate xs.length (.bl true)), true, true⟩) ⟨[.val (.lst xs) false f1, .val (.lst xs) false f2, .no, .no], st⟩ := by
    show (bev C (e_same g) _).bind _ = _
    show ((compGoB _ (((xs.map fun x => mkOld x (f1 || imm (.lst xs))).zip (xs.map fun x => mkOld x (f2 || imm (.lst xs)))).map fun p => Yb.two p.1 p.2) [] true _).bind _) = _
    rw [same_comp hl h _ rfl]
    rfl
  simp [b_same, bexs, bex, bev, bevT, btst, RB.bind, RB.st, op1, finT, finsT, instT, tyT, isTyT, blB, truB, liftB, truT, BX.seq, cmpT, eqT_bl, eqT_int, isNonT, biT, lenT, newB, mkNew, immE, mutT, this, allT, blsT_rep]
theorem same_tup (hl : xs.length ≤ BIG) (h : ∀ x, x ∈ xs → ∀ f1 u1 f2 u2, C.call g [.v ⟨x, f1, u1⟩, .v ⟨x, f2, u2⟩] st = .ok ⟨.bl true, true, false⟩ st) :
    bexs C (b_same g) ⟨[.val (.tup xs) false f1, .val (.tup xs) false f2, .no, .no], st⟩ = .rt ⟨.bl true, true, false⟩ st := by
  have this : preT (e_same g) (bev C (e_same g)) ⟨[.val (.tup xs) false f1, .val (.tup xs) false f2, .no, .no], st⟩ = .ok (.inr ⟨.lst (List.replicate xs.length (.bl true)), true, true⟩) ⟨[.val (.tup xs) false f1, .val (.tup xs) false f2, .no, .no], st⟩ := by
    show (bev C (e_same g) _).bind _ = _
    show ((compGoB _ (((xs.map fun x => mkOld x (f1 || imm (.tup xs))).zip (xs.map fun x => mkOld x (f2 || imm (.tup xs)))).map fun p => Yb.two p.1 p.2) [] true _).bind _) = _
    rw [same_comp hl h _ rfl]
    rfl
  simp [b_same, bexs, bex, bev, bevT, btst, RB.bind, RB.st, op1, finT, finsT, instT, tyT, isTyT, blB, truB, liftB, truT, BX.seq, cmpT, eqT_bl, eqT_int, isNonT, biT, lenT, newB, mkNew, immE, mutT, this, allT, blsT_rep]
end
theorem same_ok {ns : List Int} {dg gm : Nat} {T : List Df} (hg : gm ≠ dg) (hT : T[gm]? = some ⟨4, 2, b_same gm⟩) : ∀ (n k : Nat), n < k → ∀ t, eqOk t = true → depT t ≤ n → mxT t ≤ BIG → ∀ (f1 u1 f2 u2 : Bool) (st : Strm),
    callB ns dg T k gm [.v ⟨t, f1, u1⟩, .v ⟨t, f2, u2⟩] st = .ok ⟨.bl true, true, false⟩ st := by
  intro n
  induction n with
  | zero =>
    intro k hk t ho hd hm f1 u1 f2 u2 st
    obtain ⟨k, rfl⟩ : ∃ j, k = j + 1 := ⟨k - 1, by omega⟩
    rw [call_go hg hT]
    refine run_rt rfl ?_
    cases t with
    | non => exact same_non
    | bl b => exact same_bl
    | int i => exact same_int
    | str x => exact same_str ho
    | lst ts => exact absurd hd (by show ¬ (depTs ts + 1 ≤ 0); omega)
    | tup ts => exact absurd hd (by show ¬ (depTs ts + 1 ≤ 0); omega)
    | dK _ => cases ho
    | dT _ => cases ho
    | scr => cases ho
  | succ n ih =>
    intro k hk t ho hd hm f1 u1 f2 u2 st
    obtain ⟨k, rfl⟩ : ∃ j, k = j + 1 := ⟨k - 1, by omega⟩
    rw [call_go hg hT]
    refine run_rt rfl ?_
    cases t with
    | non => exact same_non
    | bl b => exact same_bl
    | int i => exact same_int
    | str x => exact same_str ho
    | lst ts =>
      have hd : depTs ts + 1 ≤ n + 1 := hd
      have hm : max ts.length (mxTs ts) ≤ BIG := hm
      exact same_lst (by omega) fun x hx f1 u1 f2 u2 => ih k (by omega) x (eqOks_mem ho hx) (by have := depTs_mem hx; omega) (by have := mxTs_mem hx; omega) _ _ _ _ _
    | tup ts =>
      have hd : depTs ts + 1 ≤ n + 1 := hd
      have hm : max ts.length (mxTs ts) ≤ BIG := hm
      exact same_tup (by omega) fun x hx f1 u1 f2 u2 => ih k (by omega) x (eqOks_mem ho hx) (by have := depTs_mem hx; omega) (by have := mxTs_mem hx; omega) _ _ _ _ _
    | dK _ => cases ho
    | dT _ => cases ho
    | scr => cases ho
end HA

namespace HA
open PySem PySem.Spec PyProof.Rows L2

/-! ### places -/
theorem ixN_nat {n i : Nat} (h : i < n) : ixN n (i : Int) = some i := by
  unfold ixN
  rw [if_pos (by omega), if_pos (by omega)]
  simp
theorem atI_nat {α : Type} {xs : List α} {i : Nat} (h : i < xs.length) : atI xs (i : Int) = xs[i]? := by
  unfold atI
  rw [ixN_nat h]
  rfl
theorem seqIx_nat {n i : Nat} (h : i < n) : seqIndex? (i : Int) n = some i := by
  unfold seqIndex?
  have : ¬ ((i : Int) < 0) := by omega
  simp only [this, if_false]
  simp
  omega
theorem nat_of {i : Int} (h : 0 ≤ i) : ∃ j : Nat, i = (j : Int) := ⟨i.toNat, by omega⟩

/-! ### loosened -/
mutual
inductive Lo : Tr → Tr → Prop where
  | atom {t : Tr} (h : atomT t = true) : Lo t t
  | ll {ts rs : List Tr} (r : Los ts rs) : Lo (.lst ts) (.lst rs)
  | lt {ts rs : List Tr} (r : Los ts rs) : Lo (.lst ts) (.tup rs)
  | tl {ts rs : List Tr} (r : Los ts rs) : Lo (.tup ts) (.lst rs)
  | tt {ts rs : List Tr} (r : Los ts rs) : Lo (.tup ts) (.tup rs)
inductive Los : List Tr → List Tr → Prop where
  | nil : Los [] []
  | cons {t r : Tr} {ts rs : List Tr} (a : Lo t r) (b : Los ts rs) : Los (t :: ts) (r :: rs)
end
theorem Los.app : ∀ {ts rs us vs : List Tr}, Los ts rs → Los us vs → Los (ts ++ us) (rs ++ vs)
  | _, _, _, _, .nil, s => s
  | _, _, _, _, .cons a r, s => .cons a (Los.app r s)
theorem Los.len : ∀ {ts rs : List Tr}, Los ts rs → rs.length = ts.length
  | _, _, .nil => rfl
  | _, _, .cons _ r => by rw [List.length_cons, List.length_cons, Los.len r]
theorem Los.ints : ∀ {l : List Int} {rs : List Tr}, Los (l.map .int) rs → rs = l.map .int
  | [], _, .nil => rfl
  | i :: l, _, .cons a r => by
    cases a
    rw [Los.ints r]
    rfl
theorem Lo.vL {l : List Int} {r : Tr} (h : Lo (vL l) r) : r = HA.vL l ∨ r = vT l := by
  cases h with
  | atom h => cases h
  | ll r => exact .inl (by rw [r.ints])
  | lt r => exact .inr (by rw [r.ints])
mutual
def nT : Tr → Nat
  | .lst ts => nTs ts + 1
  | .tup ts => nTs ts + 1
  | _ => 0
def nTs : List Tr → Nat
  | [] => 0
  | t :: ts => nT t + nTs ts
end
theorem nTs_app : ∀ (a b : List Tr), nTs (a ++ b) = nTs a + nTs b
  | [], b => (Nat.zero_add _).symm
  | x :: a, b => by
    show nT x + nTs (a ++ b) = (nT x + nTs a) + nTs b
    rw [nTs_app a b, Nat.add_assoc]
theorem take_get {α : Type} {xs : List α} {i : Nat} {x : α} (h : xs[i]? = some x) : xs.take (i + 1) = xs.take i ++ [x] := by
  rw [List.take_add_one, h]
  rfl
theorem nTs_take {ts : List Tr} {i : Nat} {t : Tr} (h : ts[i]? = some t) : nTs (ts.take i) + nT t ≤ nTs ts := by
  have e := nTs_app (ts.take (i + 1)) (ts.drop (i + 1))
  rw [List.take_append_drop, take_get h, nTs_app] at e
  have : nTs [t] = nT t := rfl
  omega
theorem okTs_mem : ∀ {ts : List Tr} {t : Tr}, okTs ts = true → t ∈ ts → okT t = true
  | [], t, _, m => by cases m
  | x :: ts, t, e, m => by
    have e : (okT x && okTs ts) = true := e
    rw [Bool.and_eq_true] at e
    rcases List.mem_cons.mp m with rfl | m
    · exact e.1
    · exact okTs_mem e.2 m
def e_loose (gl : Nat) : E := .comp (.val (.var 1)) [3] (.nm 3) .nil (.call gl (.cons (.var 0) (.cons (.var 3) .nil)))
def b_loose (gd gl : Nat) : Ss := (.cons (.ife (.inst (.var 1) [.list, .tuple]) (.cons (.asg (.nm 2) (e_loose gl))
    (.cons (.ret (.ife (.cmp .eq (.call gd (.cons (.var 0) (.cons (.cst (.int 2)) .nil))) (.cst (.int 0))) (.var 2) (.bi .tuple (.cons (.var 2) .nil)))) .nil)) .nil)
    (.cons (.ret (.var 1)) .nil))
def LooseP (C : Cb) (gl : Nat) (c : Int) (t : Tr) : Prop := ∀ (f1 u1 : Bool) (c' : Int) (st : Strm), c' + nT t ≤ c → StG c' st → ∃ r f u st', C.call gl [.s, .v ⟨t, f1, u1⟩] st = .ok ⟨r, f, u⟩ st' ∧ Lo t r ∧ StG (c' + nT t) st'
theorem loose_comp {C : Cb} {gl : Nat} {ts : List Tr} {t : Tr} (ht : t = .lst ts ∨ t = .tup ts) {f1 : Bool} {c cM : Int} (hc : c + nTs ts ≤ cM) (hl : ts.length ≤ BIG) (ih : ∀ t, t ∈ ts → LooseP C gl cM t) {st : Strm} (g : StG c st) :
    ∃ rs f st', bev C (e_loose gl) ⟨[.st, .val t false f1, .no, .no], st⟩ = .ok ⟨.lst rs, f, true⟩ ⟨[.st, .val t false f1, .no, .no], st'⟩ ∧ Los ts rs ∧ StG (c + nTs ts) st' := by
  have key : ∀ a : Bool, ∃ acc' f' bs', compGoB (compBodyB [3] (.nm 3) (fun s => .ok true s) (bev C (.call gl (.cons (.var 0) (.cons (.var 3) .nil))))) ((ts.map fun x => mkOld x a).map Yb.one) [] true ⟨[.st, .val t false f1, .no, .no], st⟩ = .ok ⟨.lst acc', f', true⟩ bs' ∧ (∃ st', bs' = ⟨[.st, .val t false f1, .no, .no], st'⟩ ∧ StG (c + nTs (ts.take ((ts.map fun x => mkOld x a).map Yb.one).length)) st' ∧ Los (ts.take ((ts.map fun x => mkOld x a).map Yb.one).length) acc') := by
    intro a
    refine comp_inv (((ts.map fun x => mkOld x a).map Yb.one)) (fun i acc bs => ∃ st', bs = ⟨[.st, .val t false f1, .no, .no], st'⟩ ∧ StG (c + nTs (ts.take i)) st' ∧ Los (ts.take i) acc) ?_ [] true _ (by simp only [List.length_nil, List.length_map]; omega) ⟨st, rfl, by simpa [nTs] using g, by rw [List.take_zero]; exact .nil⟩
    intro i y acc bs hy ⟨st1, hb, g1, l1⟩
    rw [List.map_map, List.getElem?_map] at hy
    cases q : ts[i]? with
    | none => rw [q] at hy; cases hy
    | some x =>
      rw [q] at hy
      cases hy
      subst hb
      have hx := List.mem_of_getElem? q
      have w := nTs_take q
      obtain ⟨r, f, u, st2, e, lo, g2⟩ := ih x hx (a || imm x) false (c + nTs (ts.take i)) st1 (by omega) g1
      have e' : ∀ f1 u1, C.call gl [.s, .v ⟨x, f1, u1⟩] st1 = C.call gl [.s, .v ⟨x, f1, u1⟩] st1 := fun _ _ => rfl
      refine ⟨⟨r, f, u⟩, ⟨[.st, .val t false f1, .no, .no], st2⟩, ?_, st2, rfl, ?_, ?_⟩
      · simp [compBodyB, tgSlots, tgYB, tgB, spreadB, wipeB, RB.bind, bev, bevA, mkOld, RC.to, backB, e]
      · rw [take_get q, nTs_app]
        have : nTs [x] = nT x := rfl
        rw [this]
        exact g2.up (by omega)
      · rw [take_get q]
        exact l1.app (.cons lo .nil)
  rcases ht with rfl | rfl
  · obtain ⟨rs, f, bs', e, st', rfl, g', l⟩ := key (f1 || imm (.lst ts))
    simp only [List.length_map, List.take_length] at g' l
    exact ⟨rs, f, st', e, l, g'⟩
  · obtain ⟨rs, f, bs', e, st', rfl, g', l⟩ := key (f1 || imm (.tup ts))
    simp only [List.length_map, List.take_length] at g' l
    exact ⟨rs, f, st', e, l, g'⟩
theorem loose_atom {C : Cb} {gd gl : Nat} {t : Tr} {f1 : Bool} {st : Strm} (h : atomT t = true) (h2 : okT t = true) : bexs C (b_loose gd gl) ⟨[.st, .val t false f1, .no, .no], st⟩ = .rt ⟨t, true, false⟩ st := by
  cases t with
  | lst ts => cases h
  | tup ts => cases h
  | dK ts => cases h
  | dT ts => cases h
  | scr => cases h2
  | _ => simp [b_loose, bexs, bex, bev, btst, RB.bind, RB.st, op1, finT, instT, tyT, isTyT, blB, truB, liftB, truT, BX.seq, imm]
theorem loose_seq {C : Cb} {gd gl : Nat} {t : Tr} {ts : List Tr} (ht : t = .lst ts ∨ t = .tup ts) {f1 : Bool} {c cM : Int} (hc : c + nT t ≤ cM) (hl : ts.length ≤ BIG) (ih : ∀ t, t ∈ ts → LooseP C gl cM t) {st : Strm} (g : StG c st)
    (hd : ∀ (c : Int) (st : Strm), StG c st → c + 1 ≤ cM → ∃ i st', C.call gd [.s, .v ⟨.int 2, true, false⟩] st = .ok ⟨.int i, true, false⟩ st' ∧ StG (c + 1) st') :
    ∃ r f u st', bexs C (b_loose gd gl) ⟨[.st, .val t false f1, .no, .no], st⟩ = .rt ⟨r, f, u⟩ st' ∧ Lo t r ∧ StG (c + nT t) st' := by
  have n1 : nT t = nTs ts + 1 := by rcases ht with rfl | rfl <;> rfl
  obtain ⟨rs, f, st1, e1, l1, g1⟩ := loose_comp (C := C) (gl := gl) ht (f1 := f1) (c := c) (cM := cM) (by omega) hl ih g
  obtain ⟨i, st2, e2, g2⟩ := hd _ _ g1 (by omega)
  have s1 : btst C (.inst (.var 1) [.list, .tuple]) ⟨[.st, .val t false f1, .no, .no], st⟩ = .ok true ⟨[.st, .val t false f1, .no, .no], st⟩ := by
    rcases ht with rfl | rfl <;> simp [btst, bev, RB.bind, op1, finT, instT, tyT, isTyT, blB, truB, liftB, truT]
  have s2 : bex C (.asg (.nm 2) (e_loose gl)) ⟨[.st, .val t false f1, .no, .no], st⟩ = .nx ⟨[.st, .val t false f1, .val (.lst rs) true f, .no], st1⟩ := by
    rw [b_asg (fun i g as _ z => by cases z) e1]
    rfl
  have s3 : ∃ r f' u, bex C (.ret (.ife (.cmp .eq (.call gd (.cons (.var 0) (.cons (.cst (.int 2)) .nil))) (.cst (.int 0))) (.var 2) (.bi .tuple (.cons (.var 2) .nil)))) ⟨[.st, .val t false f1, .val (.lst rs) true f, .no], st1⟩ = .rt ⟨r, f', u⟩ st2 ∧ (r = .lst rs ∨ r = .tup rs) := by
    by_cases hi : i = 0
    · exact ⟨.lst rs, f || imm (.lst rs), false, by simp [bex, bev, bevA, vaT, RB.bind, RB.st, op1, finT, blB, truB, liftB, truT, RC.to, e2, cmpT, eqT_int, hi, mkOld], .inl rfl⟩
    · exact ⟨.tup rs, (f || imm (.lst rs)) || immE (.tup rs), false, by simp [bex, bev, bevA, bevT, vaT, RB.bind, RB.st, op1, finT, finsT, blB, truB, liftB, truT, RC.to, e2, cmpT, eqT_int, hi, biT, tupleT, newB, mkNew, mutT], .inr rfl⟩
  obtain ⟨r, f', u, s3, hr⟩ := s3
  refine ⟨r, f', u, st2, ?_, ?_, g2.up (by omega)⟩
  · unfold b_loose
    refine b_rt ?_
    rw [b_ife s1, if_pos rfl, b_nx s2]
    exact b_rt s3
  · rcases ht with rfl | rfl <;> rcases hr with rfl | rfl
    · exact .ll l1
    · exact .lt l1
    · exact .tl l1
    · exact .tt l1
theorem loose_ok {ns : List Int} {dg gl : Nat} {T : List Df} (hg : gl ≠ dg) (hT : T[gl]? = some ⟨4, 2, b_loose dg gl⟩) {cM : Int} (hM : cM ≤ CNT) : ∀ (n k : Nat), n + 1 < k → ∀ t, okT t = true → depT t ≤ n → mxT t ≤ BIG → LooseP ⟨ns, none, callB ns dg T k⟩ gl cM t := by
  intro n
  induction n with
  | zero =>
    intro k hk t ho hd hm f1 u1 c st hc g
    obtain ⟨k, rfl⟩ : ∃ j, k = j + 1 := ⟨k - 1, by omega⟩
    have ha : atomT t = true ∧ nT t = 0 := by
      cases t with
      | lst ts => exact absurd hd (by show ¬ (depTs ts + 1 ≤ 0); omega)
      | tup ts => exact absurd hd (by show ¬ (depTs ts + 1 ≤ 0); omega)
      | dK _ => cases ho
      | dT _ => cases ho
      | _ => exact ⟨rfl, rfl⟩
    refine ⟨t, true, false, st, ?_, .atom ha.1, g.up (by omega)⟩
    show callB ns dg T (k + 1) gl _ st = _
    rw [call_go hg hT]
    exact run_rt rfl (loose_atom ha.1 ho)
  | succ n ih =>
    intro k hk t ho hd hm f1 u1 c st hc g
    obtain ⟨k, rfl⟩ : ∃ j, k = j + 1 := ⟨k - 1, by omega⟩
    have seq : ∀ ts, (t = .lst ts ∨ t = .tup ts) → okTs ts = true → depTs ts ≤ n → ts.length ≤ BIG → mxTs ts ≤ BIG → ∃ r f u st', callB ns dg T (k + 1) gl [.s, .v ⟨t, f1, u1⟩] st = .ok ⟨r, f, u⟩ st' ∧ Lo t r ∧ StG (c + nT t) st' := by
      intro ts ht ho hd hl hm
      obtain ⟨r, f, u, st', e, lo, g'⟩ := loose_seq (C := ⟨ns, none, callB ns dg T k⟩) (gd := dg) (gl := gl) ht (f1 := false) hc hl (fun x hx => ih k (by omega) x (okTs_mem ho hx) (by have := depTs_mem hx; omega) (by have := mxTs_mem hx; omega)) g (fun c st g hc => by
        obtain ⟨i, st', e, _, _, g'⟩ := draw_ok g (m := 2) (by omega) (by decide) (by decide)
        exact ⟨i, st', call_draw (by omega) e, g'⟩)
      exact ⟨r, f, u, st', by rw [call_go hg hT]; exact run_rt rfl e, lo, g'⟩
    cases t with
    | lst ts =>
      have hd : depTs ts + 1 ≤ n + 1 := hd
      have hm : max ts.length (mxTs ts) ≤ BIG := hm
      exact seq ts (.inl rfl) ho (by omega) (by omega) (by omega)
    | tup ts =>
      have hd : depTs ts + 1 ≤ n + 1 := hd
      have hm : max ts.length (mxTs ts) ≤ BIG := hm
      exact seq ts (.inr rfl) ho (by omega) (by omega) (by omega)
    | dK _ => cases ho
    | dT _ => cases ho
    | scr => cases ho
    | _ =>
      refine ⟨_, true, false, st, ?_, .atom rfl, g.up (by show c ≤ c + ((0 : Nat) : Int); omega)⟩
      show callB ns dg T (k + 1) gl _ st = _
      rw [call_go hg hT]
      exact run_rt rfl (loose_atom rfl rfl)
end HA

namespace HA
open PySem PySem.Spec PyProof.Rows L2

/-! ### draws, picks, mixed things -/
def DrawC (C : Cb) (gd : Nat) (cM : Int) : Prop := ∀ (c : Int) (st : Strm) (m : Int) (f u : Bool), StG c st → c + 1 ≤ cM → 0 < m → m < 1073741824 → ∃ i st', C.call gd [.s, .v ⟨.int m, f, u⟩] st = .ok ⟨.int i, true, false⟩ st' ∧ 0 ≤ i ∧ i < m ∧ StG (c + 1) st'
theorem drawC_of {ns : List Int} {dg k : Nat} {T : List Df} {cM : Int} (hk : 1 ≤ k) (hM : cM ≤ CNT) : DrawC ⟨ns, none, callB ns dg T k⟩ dg cM := fun c st m f u g h1 h2 h3 => by
  obtain ⟨i, st', e, a, b, g'⟩ := draw_ok g (m := m) (by omega) h2 h3
  exact ⟨i, st', call_draw hk e, a, b, g'⟩
theorem DrawC.sg {C : Cb} {gd : Nat} {cM : Int} {sg : Option Nat} (h : DrawC C gd cM) : DrawC ⟨C.ns, sg, C.call⟩ gd cM := h
def b_pick (gd : Nat) : Ss := (.cons (.ret (.idx (.var 1) (.call gd (.cons (.var 0) (.cons (.bi .len (.cons (.var 1) .nil)) .nil))))) .nil)
theorem pick_b {C : Cb} {gd : Nat} {cM c : Int} {st : Strm} {ts : List Tr} {f1 : Bool} (hd : DrawC C gd cM) (g : StG c st) (hc : c + 1 ≤ cM) (h0 : ts ≠ []) (hl : ts.length ≤ BIG) :
    ∃ t st', t ∈ ts ∧ bexs C (b_pick gd) ⟨[.st, .val (.lst ts) false f1], st⟩ = .rt (mkOld t (f1 || imm (.lst ts))) st' ∧ StG (c + 1) st' := by
  have hp : 0 < ts.length := List.length_pos_iff.mpr h0
  have hl : ts.length ≤ 16777216 := hl
  obtain ⟨i, st', e, a, b, g'⟩ := hd c st ts.length ((f1 || imm (.lst ts)) || true) false g hc (by omega) (by omega)
  obtain ⟨j, rfl⟩ := nat_of a
  have hj : j < ts.length := by omega
  refine ⟨ts[j], st', List.getElem_mem hj, ?_, g'⟩
  have ix : atI ts (j : Int) = some ts[j] := by rw [atI_nat hj]; exact List.getElem?_eq_getElem hj
  simp only [Bool.or_true] at e
  simp [b_pick, bexs, bex, bev, bevA, bevT, RB.bind, RB.st, op1, finT, finsT, biT, lenT, newB, mkNew, immE, mutT, RC.to, e, idxT, ix, oldB, BX.seq]
def b_mixed (gd : Nat) : Ss := (.cons (.par [2, 3] (.cons (.bi .list (.cons (.var 1) .nil)) (.cons (.lst .nil) .nil)))
    (.cons (.for_ (.rng (.cons (.bi .len (.cons (.var 2) .nil)) .nil)) (.nm 4) (.cons (.exp (.mth .append (.var 3) (.cons (.mth .pop (.var 2) (.cons (.call gd (.cons (.var 0) (.cons (.bi .len (.cons (.var 2) .nil)) .nil))) .nil)) .nil))) .nil))
    (.cons (.ret (.var 3)) .nil)))
def f_mixed (gd : Nat) : Sm := .for_ (.rng (.cons (.bi .len (.cons (.var 2) .nil)) .nil)) (.nm 4) (.cons (.exp (.mth .append (.var 3) (.cons (.mth .pop (.var 2) (.cons (.call gd (.cons (.var 0) (.cons (.bi .len (.cons (.var 2) .nil)) .nil))) .nil)) .nil))) .nil)
theorem b_for {C : Cb} {bs bs1 : BS} {it : It} {tg : Tg} {b : Ss} {ys : List Yb} (h : bevIt C (fun i => nmSs i b) it bs = .ok ys bs1) : bex C (.for_ it tg b) bs = forGoB tg (bexs C b) ys bs1 := by
  unfold bex
  rw [h]
  rfl
theorem b_set {C : Cb} {bs : BS} {s : Sm} {r : Ss} : bexs C (.cons s r) bs = (bex C s bs).seq (bexs C r) := rfl
theorem rngL_len (a b : Int) : (rngL a b).length = (b - a).toNat := by
  unfold rngL
  rw [List.length_map, List.length_range]
theorem rngL_get {a b : Int} {i : Nat} (h : i < (b - a).toNat) : (rngL a b)[i]? = some (a + i) := by
  unfold rngL
  rw [List.getElem?_map, List.getElem?_range h]
  rfl
theorem perm_erase {α : Type} : ∀ (l : List α) (i : Nat) (y : α), l[i]? = some y → (y :: l.eraseIdx i).Perm l
  | [], i, y, h => by simp at h
  | x :: l, 0, y, h => by
    simp at h
    subst h
    exact List.Perm.refl _
  | x :: l, i + 1, y, h => by
    rw [List.eraseIdx_cons_succ]
    exact (List.Perm.swap x y _).trans ((perm_erase l i y (by simpa using h)).cons x)
abbrev mx_body (gd : Nat) : Ss := .cons (.exp (.mth .append (.var 3) (.cons (.mth .pop (.var 2) (.cons (.call gd (.cons (.var 0) (.cons (.bi .len (.cons (.var 2) .nil)) .nil))) .nil)) .nil))) .nil
abbrev mx_st (ts left found : List Tr) (f1 f2 f3 : Bool) (x4 : Sb) (st : Strm) : BS := ⟨[.st, .val (.lst ts) false f1, .val (.lst left) true f2, .val (.lst found) true f3, x4], st⟩
theorem mixed_1 {C : Cb} {gd : Nat} {ts : List Tr} {f1 : Bool} {st : Strm} : bex C (.par [2, 3] (.cons (.bi .list (.cons (.var 1) .nil)) (.cons (.lst .nil) .nil))) ⟨[.st, .val (.lst ts) false f1, .no, .no, .no], st⟩ = .nx (mx_st ts ts [] f1 ((f1 || imm (.lst ts)) || immE (.lst ts)) (lvsF [] || immE (.lst [])) .no st) := by
  simp [bex, bev, bevs, bevT, RB.bind, RB.st, op1, finT, finsT, biT, listT, newB, mkNew, mutT, lvsT, nxB, setAllB]
theorem mixed_2 {C : Cb} {gd : Nat} {ts left found : List Tr} {f1 f2 f3 : Bool} {x4 : Sb} {st : Strm} {nm : Nat → Bool} (hl : left.length < 16777216) : bevIt C nm (.rng (.cons (.bi .len (.cons (.var 2) .nil)) .nil)) (mx_st ts left found f1 f2 f3 x4 st) = .ok ((rngL 0 left.length).map fun k => .one ⟨.int k, true, false⟩) (mx_st ts left found f1 f2 f3 x4 st) := by
  have e : rngT [.int (left.length : Int)] = some (0, (left.length : Int)) := by
    unfold rngT
    simp only []
    rw [if_pos (nin_iff.mpr ⟨by omega, by omega⟩)]
  simp [bevIt, bev, bevT, RB.bind, op1, finT, finsT, biT, lenT, newB, mkNew, e]
theorem mixed_3 {C : Cb} {gd j : Nat} {ts left found : List Tr} {f1 f2 f3 : Bool} {x4 : Sb} {st st2 : Strm} (e : C.call gd [.s, .v ⟨.int left.length, true, false⟩] st = .ok ⟨.int (j : Int), true, false⟩ st2) {y : Tr} (lj : left[j]? = some y) (hl : left.length < 16777216) (hf : found.length < 16777216) :
    bexs C (mx_body gd) (mx_st ts left found f1 f2 f3 x4 st) = .nx (mx_st ts (left.eraseIdx j) (found ++ [y]) f1 (f2 && lvsF [⟨.int (j : Int), true, false⟩]) (f3 && lvsF [mkOld y f2]) x4 st2) := by
  have hj : j < left.length := (List.getElem?_eq_some_iff.mp lj).1
  have p : mutR .pop (.lst left) [.int (j : Int)] = some (.lst (left.eraseIdx j), y) := by
    simp only [mutR]
    rw [if_pos (nin_iff.mpr ⟨by omega, by omega⟩), seqIx_nat hj]
    simp only [lj]
  have a : mutR .append (.lst found) [y] = some (.lst (found ++ [y]), .non) := by
    simp only [mutR]
    rw [if_pos hf]
  simp [bexs, bex, bev, bevA, bevs, bevT, RB.bind, RB.st, op1, finT, finsT, biT, lenT, newB, mkNew, immE, mutT, RC.to, e, BX.seq, isMutM, kdT, p, a, lvsT, lvsF, mkOld]
theorem mixed_b {C : Cb} {gd : Nat} {cM c : Int} {st : Strm} {ts : List Tr} {f1 : Bool} (hd : DrawC C gd cM) (g : StG c st) (hc : c + ts.length ≤ cM) (hl : ts.length < 16777216) :
    ∃ rs f st', bexs C (b_mixed gd) ⟨[.st, .val (.lst ts) false f1, .no, .no, .no], st⟩ = .rt ⟨.lst rs, f, true⟩ st' ∧ rs.Perm ts ∧ StG (c + ts.length) st' := by
  have lenY : ((rngL 0 ts.length).map fun k => Yb.one ⟨.int k, true, false⟩).length = ts.length := by
    rw [List.length_map, rngL_len]
    omega
  obtain ⟨bs', s2, left, found, x4, f2, f3, st', hb, g', hp, hf⟩ := for_inv (tg := .nm 4) (body := bexs C (mx_body gd))
    (fun i bs => ∃ left found x4 f2 f3 st', bs = mx_st ts left found f1 f2 f3 x4 st' ∧ StG (c + i) st' ∧ (found ++ left).Perm ts ∧ found.length = i)
    ((rngL 0 ts.length).map fun k => Yb.one ⟨.int k, true, false⟩) (by
      intro i y bs hy ⟨left, found, x4, f2, f3, st1, hb, g1, hp, hf⟩
      have hi := (List.getElem?_eq_some_iff.mp hy).1
      rw [lenY] at hi
      obtain ⟨kk, rfl⟩ : ∃ kk, y = Yb.one ⟨.int kk, true, false⟩ := by
        rw [List.getElem?_map] at hy
        cases q : (rngL 0 ts.length)[i]? with
        | none => rw [q] at hy; cases hy
        | some z => rw [q] at hy; cases hy; exact ⟨z, rfl⟩
      have pl := hp.length_eq
      rw [List.length_append] at pl
      obtain ⟨d, st2, e, a, b, g2⟩ := hd (c + i) st1 left.length true false g1 (by omega) (by omega) (by omega)
      obtain ⟨j, rfl⟩ := nat_of a
      have hj : j < left.length := by omega
      have lj : left[j]? = some left[j] := List.getElem?_eq_getElem hj
      subst hb
      exact ⟨_, _, rfl, .inl (mixed_3 (x4 := .val (.int kk) false true) e lj (by omega) (by omega)), _, _, _, _, _, _, rfl, by rw [show c + ((i + 1 : Nat) : Int) = c + i + 1 by omega]; exact g2,
        List.Perm.trans (by rw [List.append_assoc]; exact List.Perm.append_left _ (perm_erase _ _ _ lj)) hp, by rw [List.length_append, List.length_singleton, hf]⟩)
    (bs := mx_st ts ts [] f1 ((f1 || imm (.lst ts)) || immE (.lst ts)) (lvsF [] || immE (.lst [])) .no st) ⟨ts, [], .no, _, _, st, rfl, by simpa using g, by simp, rfl⟩
  rw [lenY] at g' hf
  subst hb
  have l0 : left = [] := by
    have pl := hp.length_eq
    rw [List.length_append] at pl
    exact List.eq_nil_of_length_eq_zero (by omega)
  subst l0
  rw [List.append_nil] at hp
  refine ⟨found, f3 || imm (.lst found), st', ?_, hp, g'⟩
  unfold b_mixed
  rw [b_nx (mixed_1 (gd := gd)), b_nx ((b_for (mixed_2 (gd := gd) hl)).trans s2)]
  rfl
end HA

namespace HA
open PySem PySem.Spec PyProof.Rows L2

/-! ### repr -/
/-- whole signs -/
def Cok (x : Str) : Prop := ∀ c ∈ x.cps.toList, c < 0x110000
theorem Cok.ok {x : Str} (h : Cok x) : PyData.strOk x = true := by
  unfold PyData.strOk
  rw [Array.all_eq_true']
  intro c hc
  exact decide_eq_true (h c (Array.mem_toList_iff.mpr hc))
theorem Cok.app {x y : Str} (h : Cok x) (k : Cok y) : Cok (x ++ y) := fun c hc => (mem_cps_append.mp hc).elim (h c) (k c)
theorem Cok.join {sep : Str} {ts : List Str} (h : Cok sep) (k : ∀ t ∈ ts, Cok t) : Cok (Str.join sep ts) := fun c hc => by
  rcases (mem_join sep c ts).mp hc with ⟨t, ht, m⟩ | ⟨_, m⟩
  · exact k t ht c m
  · exact h c m
theorem Cok.small {l : List Nat} {x : Str} (e : x.cps.toList = l) (h : ∀ c ∈ l, c < 0x110000) : Cok x := fun c hc => h c (by rw [← e]; exact hc)
theorem Cok.int (i : Int) : Cok (PyData.int i).shown := fun c hc => by
  rcases Nat.lt_or_ge c 0x110000 with h | h
  · exact h
  · exact absurd hc (shown_int_free' ⟨by omega, .inr (by omega)⟩ i)
theorem Cok.sep : Cok ((", " : String) : Str) := .small signs_sep (by decide)
theorem Cok.list {ds : List PyData} (h : ∀ t ∈ PyData.shownAll ds, Cok t) : Cok (PyData.list ds).shown := by
  rw [PyData.shown_list]
  exact ((Cok.small signs_lbrack (by decide)).app (.join .sep h)).app (.small signs_rbrack (by decide))
theorem Cok.tuple {ds : List PyData} (h : ∀ t ∈ PyData.shownAll ds, Cok t) : Cok (PyData.tuple ds).shown := by
  rw [PyData.shown_tuple]
  refine ((Cok.small signs_lparen (by decide)).app (.join .sep h)).app ?_
  split
  · exact .small (l := [44, 41]) (by decide) (by decide)
  · exact .small (l := [41]) (by decide) (by decide)
/-! ints that are not too great, at any depth -/
mutual
def smD : PyData → Bool
  | .int i => decide (0 ≤ i) && decide (i < 1000000000000)
  | .none => true
  | .bool _ => true
  | .list xs => smDs xs
  | .tuple xs => smDs xs
  | _ => false
def smDs : List PyData → Bool
  | [] => true
  | x :: xs => smD x && smDs xs
end
theorem Cok.none : Cok PyData.none.shown := by
  rw [PyData.shown_none]
  exact .small (l := [78, 111, 110, 101]) (by decide) (by decide)
theorem Cok.bool (b : Bool) : Cok (PyData.bool b).shown := by
  rw [PyData.shown_bool]
  cases b
  · exact .small (l := [70, 97, 108, 115, 101]) (by decide) (by decide)
  · exact .small (l := [84, 114, 117, 101]) (by decide) (by decide)
mutual
theorem smD_cok : ∀ d : PyData, smD d = true → Cok d.shown
  | .int i, _ => .int i
  | .none, _ => .none
  | .bool b, _ => .bool b
  | .list xs, h => .list (smDs_cok xs h)
  | .tuple xs, h => .tuple (smDs_cok xs h)
  | .str _, h => by cases h
  | .dict _, h => by cases h
theorem smDs_cok : ∀ ds : List PyData, smDs ds = true → ∀ t ∈ PyData.shownAll ds, Cok t
  | [], _, t, m => by rw [PyData.shownAll_nil] at m; cases m
  | d :: ds, h, t, m => by
    have h : (smD d && smDs ds) = true := h
    rw [Bool.and_eq_true] at h
    rw [PyData.shownAll_cons] at m
    rcases List.mem_cons.mp m with rfl | m
    · exact smD_cok d h.1
    · exact smDs_cok ds h.2 t m
end
theorem sm_log {i : Int} (h : 0 ≤ i) (h2 : i < 1000000000000) : i.natAbs.log2 < 1920 := by
  have : i.natAbs < 2 ^ 40 := by
    have : (2 : Nat) ^ 40 = 1099511627776 := by decide
    omega
  by_cases h0 : i.natAbs = 0
  · rw [h0]
    decide
  · have := (Nat.log2_lt h0).mpr this
    omega
theorem sm_wt {i : Int} (h : 0 ≤ i) (h2 : i < 1000000000000) : PyData.weight (.int i) ≤ 40 := by
  have e : PyData.weight (.int i) = if i == 0 then 0 else i.natAbs.log2 + 1 := by simp only [PyData.weight]
  rw [e]
  split
  · omega
  · rename_i h0
    have h0 : i ≠ 0 := by simpa using h0
    have : i.natAbs < 2 ^ 40 := by
      have : (2 : Nat) ^ 40 = 1099511627776 := by decide
      omega
    have := (Nat.log2_lt (by omega)).mpr this
    omega
theorem sm_short {i : Int} (h : 0 ≤ i) (h2 : i < 1000000000000) : (PyData.shown (.int i)).length ≤ 13 := by
  have := toString_length_le (k := 12) h (by decide) (by rw [show (10 : Int) ^ 12 = 1000000000000 by decide]; exact h2)
  rw [PyData.shown_int]
  exact Nat.le_succ_of_le this
mutual
theorem smD_all : ∀ d : PyData, smD d = true → d.showable = true ∧ PyData.canLay0 d = true ∧ PyData.intsShort 13 d = true
  | .int i, h => by
    have h : (decide (0 ≤ i) && decide (i < 1000000000000)) = true := h
    rw [Bool.and_eq_true, decide_eq_true_eq, decide_eq_true_eq] at h
    exact ⟨decide_eq_true (sm_log h.1 h.2), by simp [PyData.canLay0], by simp only [PyData.intsShort]; exact decide_eq_true (sm_short h.1 h.2)⟩
  | .none, _ => ⟨rfl, by simp [PyData.canLay0], rfl⟩
  | .bool b, _ => ⟨rfl, by simp [PyData.canLay0], rfl⟩
  | .list xs, h => by
    obtain ⟨a, b, c⟩ := smDs_all xs h
    exact ⟨by simp only [PyData.showable]; exact a, by simp only [PyData.canLay0]; exact b, by simp only [PyData.intsShort]; exact c⟩
  | .tuple xs, h => by
    obtain ⟨a, b, c⟩ := smDs_all xs h
    exact ⟨by simp only [PyData.showable]; exact a, by simp only [PyData.canLay0]; exact b, by simp only [PyData.intsShort]; exact c⟩
  | .str _, h => by cases h
  | .dict _, h => by cases h
theorem smDs_all : ∀ ds : List PyData, smDs ds = true → PyData.showableAll ds = true ∧ PyData.canLayAll0 ds = true ∧ PyData.intsShortAll 13 ds = true
  | [], _ => ⟨rfl, by simp [PyData.canLayAll0], rfl⟩
  | d :: ds, h => by
    have h : (smD d && smDs ds) = true := h
    rw [Bool.and_eq_true] at h
    obtain ⟨a, b, c⟩ := smD_all d h.1
    obtain ⟨a2, b2, c2⟩ := smDs_all ds h.2
    exact ⟨by simp only [PyData.showableAll, a, a2, Bool.and_self], by simp only [PyData.canLayAll0, b, b2, Bool.and_self], by simp only [PyData.intsShortAll, c, c2, Bool.and_self]⟩
end
/-- repr of such data: some text of whole signs -/
theorem repr_sm {r : Tr} {d : PyData} (hr : (∃ xs, r = .lst xs) ∨ ∃ xs, r = .tup xs) (hd : datT DD r = some d) (hs : smD d = true) (hw : d.weight ≤ 2 ^ 20) (hdp : d.depth ≤ 64) : reprT [r] = some (.str d.shown) ∧ PyData.strOk d.shown = true := by
  obtain ⟨a, b, c⟩ := smD_all d hs
  have l0 : PyData.layable0 d = true := by
    unfold PyData.layable0
    rw [b, decide_eq_true hdp, decide_eq_true hw]
    rfl
  have len : d.shown.length ≤ BIG := Nat.le_trans (PyData.shown_le_of_layable0 l0 c) (by decide)
  have sh : SeqAt.shaped d = true := by
    unfold SeqAt.shaped
    rw [b, decide_eq_true hdp]
    rfl
  refine ⟨?_, (smD_cok d hs).ok⟩
  rcases hr with ⟨xs, rfl⟩ | ⟨xs, rfl⟩
  · unfold reprT
    simp only [hd]
    rw [if_pos ⟨a, sh, len⟩]
  · unfold reprT
    simp only [hd]
    rw [if_pos ⟨a, sh, len⟩]
theorem smDs_ints : ∀ {l : List Int}, (∀ v ∈ l, 0 ≤ v ∧ v < 1000000000000) → smDs (l.map .int) = true ∧ PyData.weightAll (l.map .int) ≤ 41 * l.length ∧ PyData.depthAll (l.map .int) ≤ 1
  | [], _ => ⟨rfl, by simp [PyData.weightAll], by simp [PyData.depthAll]⟩
  | i :: l, h => by
    obtain ⟨a, b, c⟩ := smDs_ints (l := l) fun v m => h v (List.mem_cons_of_mem _ m)
    have hi := h i List.mem_cons_self
    refine ⟨?_, ?_, ?_⟩
    · show (smD (.int i) && smDs (l.map .int)) = true
      rw [a]
      show ((decide (0 ≤ i) && decide (i < 1000000000000)) && true) = true
      rw [decide_eq_true hi.1, decide_eq_true hi.2]
      rfl
    · show PyData.weightAll (.int i :: l.map .int) ≤ _
      have := sm_wt hi.1 hi.2
      simp only [PyData.weightAll, List.length_cons]
      omega
    · show PyData.depthAll (.int i :: l.map .int) ≤ 1
      simp only [PyData.depthAll, PyData.depth]
      exact Nat.max_le.mpr ⟨by omega, c⟩
/-- a list or a tuple of small ints -/
theorem repr_ints {r : Tr} {l : List Int} (hr : r = vL l ∨ r = vT l) (h : ∀ v ∈ l, 0 ≤ v ∧ v < 1000000000000) (hl : l.length ≤ 20000) : ∃ x, reprT [r] = some (.str x) ∧ PyData.strOk x = true := by
  obtain ⟨a, b, c⟩ := smDs_ints h
  have e : (2 : Nat) ^ 20 = 1048576 := by decide
  rcases hr with rfl | rfl
  · exact ⟨_, repr_sm (.inl ⟨_, rfl⟩) (dat_vL 39 l) a (by simp only [PyData.weight]; omega) (by simp only [PyData.depth]; omega)⟩
  · exact ⟨_, repr_sm (.inr ⟨_, rfl⟩) (dat_vT 39 l) a (by simp only [PyData.weight]; omega) (by simp only [PyData.depth]; omega)⟩
end HA

namespace HA
open PySem PySem.Spec PyProof.Rows L2
/-- is_list -/
def b_is_list : Ss := (.cons (.ret (.inst (.var 0) [.list, .tuple]))
    .nil)
def d_is_list : Df := ⟨1, 1, b_is_list⟩
/-- is_whole -/
def b_is_whole : Ss := (.cons (.ret (.and (.inst (.var 0) [.int]) (.not (.inst (.var 0) [.bool]))))
    .nil)
def d_is_whole : Df := ⟨1, 1, b_is_whole⟩
/-- is_number -/
def b_is_number : Ss := (.cons (.ret (.and (.call 1 (.cons (.var 0) .nil)) (.cmp (.ord .ge) (.var 0) (.cst (.int 0)))))
    .nil)
def d_is_number : Df := ⟨1, 1, b_is_number⟩
/-- is_index -/
def b_is_index : Ss := (.cons (.ret (.and (.call 2 (.cons (.var 0) .nil)) (.cmp (.ord .lt) (.var 0) (.var 1))))
    .nil)
def d_is_index : Df := ⟨2, 2, b_is_index⟩
/-- check_people -/
def b_check_people : Ss := (.cons (.ife (.or (.not (.call 1 (.cons (.var 0) .nil))) (.cmp (.ord .lt) (.var 0) (.cst (.int 1)))) (.cons .never
    .nil) .nil)
    .nil)
def d_check_people : Df := ⟨1, 1, b_check_people⟩
/-- check_visits -/
def b_check_visits : Ss := (.cons (.ife (.not (.call 0 (.cons (.var 1) .nil))) (.cons .never
    .nil) .nil)
    (.cons (.asg (.nm 2) (.comp (.enum (.var 1)) [3, 4] (.tp (.nm 3) (.tp (.nm 4) .te)) (.cons (.not (.call 3 (.cons (.var 4) (.cons (.var 0) .nil)))) .nil) (.var 3)))
    (.cons (.ife (.cmp .ne (.var 2) (.lst .nil)) (.cons .never
    .nil) .nil)
    .nil)))
def d_check_visits : Df := ⟨5, 2, b_check_visits⟩
/-- run_of -/
def b_run_of : Ss := (.cons (.asgs [(.tg (.nm 4)), (.tg (.nm 5)), (.tg (.nm 6)), (.tg (.nm 7))] (.tup (.cons (.bin .mul (.lst (.cons (.cst (.int 0)) .nil)) (.var 0)) (.cons (.cst (.int 0)) (.cons (.var 1) (.cons (.lst .nil) .nil))))))
    (.cons (.for_ (.val (.var 3)) (.nm 8) (.cons (.ife (.cmp .eq (.var 8) (.cst (.int 0))) (.cons (.par [5, 6] (.cons (.bin .add (.var 5) (.var 6)) (.cons (.cst (.int 0)) .nil)))
    .nil) (.cons (.ife (.and (.cmp .eq (.var 6) (.cst (.int 0))) (.cmp (.ord .lt) (.idx (.var 4) (.var 8)) (.var 2))) (.cons (.asgs [(.sub (.var 4) (.var 8)), (.tg (.nm 6))] (.tup (.cons (.bin .add (.idx (.var 4) (.var 8)) (.cst (.int 1))) (.cons (.cst (.int 1)) .nil))))
    .nil) .nil)
    .nil))
    (.cons (.exp (.mth .append (.var 7) (.cons (.tup (.cons (.var 6) (.cons (.var 5) .nil))) .nil)))
    .nil)))
    (.cons (.ret (.var 7))
    .nil)))
def d_run_of : Df := ⟨9, 4, b_run_of⟩
/-- telling -/
def b_telling : Ss := (.cons (.asg (.nm 3) (.comp (.enum (.var 0)) [4, 5, 6] (.tp (.nm 4) (.tp (.tp (.nm 5) (.tp (.nm 6) .te)) .te)) (.cons (.and (.cmp .eq (.idx (.var 1) (.var 4)) (.cst (.int 0))) (.cmp (.ord .ge) (.var 6) (.var 2))) .nil) (.var 4)))
    (.cons (.ret (.ife (.cmp .ne (.var 3) (.lst .nil)) (.idx (.var 3) (.cst (.int 0))) (.cst .non)))
    .nil))
def d_telling : Df := ⟨7, 3, b_telling⟩
/-- lamp_run -/
def b_lamp_run : Ss := (.cons (.exp (.call 4 (.cons (.var 0) .nil)))
    (.cons (.exp (.call 5 (.cons (.var 0) (.cons (.var 1) .nil))))
    (.cons (.ret (.call 6 (.cons (.var 0) (.cons (.cst (.int 0)) (.cons (.cst (.int 1)) (.cons (.var 1) .nil))))))
    .nil)))
def d_lamp_run : Df := ⟨2, 2, b_lamp_run⟩
/-- lamp_tells -/
def b_lamp_tells : Ss := (.cons (.exp (.call 4 (.cons (.var 0) .nil)))
    (.cons (.exp (.call 5 (.cons (.var 0) (.cons (.var 1) .nil))))
    (.cons (.ret (.call 7 (.cons (.call 6 (.cons (.var 0) (.cons (.cst (.int 0)) (.cons (.cst (.int 1)) (.cons (.var 1) .nil))))) (.cons (.var 1) (.cons (.bin .sub (.var 0) (.cst (.int 1))) .nil)))))
    .nil)))
def d_lamp_tells : Df := ⟨2, 2, b_lamp_tells⟩
/-- least_run -/
def b_least_run : Ss := (.cons (.exp (.call 4 (.cons (.var 0) .nil)))
    (.cons (.asg (.nm 1) (.lst .nil))
    (.cons (.for_ (.rng (.cons (.cst (.int 1)) (.cons (.var 0) .nil))) (.nm 2) (.cons (.exp (.mth .extend (.var 1) (.cons (.lst (.cons (.var 2) (.cons (.cst (.int 0)) .nil))) .nil)))
    .nil))
    (.cons (.ret (.ife (.cmp (.ord .gt) (.var 0) (.cst (.int 1))) (.var 1) (.lst (.cons (.cst (.int 0)) .nil))))
    .nil))))
def d_least_run : Df := ⟨3, 1, b_least_run⟩
/-- _law_stream -/
def b__law_stream : Ss := (.cons (.ret (.lst (.cons (.bi .list (.cons (.var 0) .nil)) (.cons (.cst (.int 0)) (.cons (.cst (.int 0)) (.cons (.cst (.int 19)) .nil))))))
    .nil)
def d__law_stream : Df := ⟨1, 1, b__law_stream⟩
/-- _law_draw -/
def b__law_draw : Ss := (.cons (.set (.var 0) (.cst (.int 2)) (.bin .add (.idx (.var 0) (.cst (.int 2))) (.cst (.int 1))))
    (.cons (.whl (.and (.cmp .eq (.idx (.var 0) (.cst (.int 1))) (.cst (.int 0))) (.cmp .ne (.idx (.var 0) (.cst (.int 0))) (.lst .nil))) (.cons (.asg (.nm 2) (.bi .abs (.cons (.mth .pop (.idx (.var 0) (.cst (.int 0))) (.cons (.cst (.int 0)) .nil)) .nil)))
    (.cons (.set (.var 0) (.cst (.int 3)) (.bin .mod (.bi .int (.cons (.bin .add (.bin .add (.bin .mul (.idx (.var 0) (.cst (.int 3))) (.cst (.int 6151))) (.var 2)) (.cst (.int 7))) .nil)) (.cst (.int 2147483629))))
    (.cons (.set (.var 0) (.cst (.int 1)) (.ife (.cmp (.ord .ge) (.var 2) (.bin .pow (.cst (.int 10)) (.cst (.int 18)))) (.var 2) (.cst (.int 0))))
    .nil))))
    (.cons (.ife (.cmp (.ord .gt) (.idx (.var 0) (.cst (.int 1))) (.cst (.int 0))) (.cons (.asg (.nm 3) (.bin .mod (.bi .int (.cons (.idx (.var 0) (.cst (.int 1))) .nil)) (.var 1)))
    (.cons (.set (.var 0) (.cst (.int 1)) (.bin .fdiv (.idx (.var 0) (.cst (.int 1))) (.var 1)))
    (.cons (.ret (.var 3))
    .nil))) .nil)
    (.cons (.asg (.nm 4) (.bin .mod (.bi .int (.cons (.bin .pow (.bin .add (.bin .add (.idx (.var 0) (.cst (.int 3))) (.bin .mul (.cst (.int 8191)) (.idx (.var 0) (.cst (.int 2))))) (.cst (.int 50021))) (.cst (.int 5))) .nil)) (.cst (.int 2147483587))))
    (.cons (.ret (.bin .mod (.bin .mod (.bi .int (.cons (.bin .pow (.bin .add (.bin .add (.bin .mul (.var 4) (.cst (.int 40009))) (.bin .mul (.cst (.int 20011)) (.idx (.var 0) (.cst (.int 2))))) (.cst (.int 31))) (.cst (.int 3))) .nil)) (.cst (.int 1000000009))) (.var 1)))
    .nil)))))
def d__law_draw : Df := ⟨5, 2, b__law_draw⟩
/-- _law_pick -/
def b__law_pick : Ss := (.cons (.ret (.idx (.var 1) (.call 12 (.cons (.var 0) (.cons (.bi .len (.cons (.var 1) .nil)) .nil)))))
    .nil)
def d__law_pick : Df := ⟨2, 2, b__law_pick⟩
/-- _law_mixed -/
def b__law_mixed : Ss := (.cons (.par [2, 3] (.cons (.bi .list (.cons (.var 1) .nil)) (.cons (.lst .nil) .nil)))
    (.cons (.for_ (.rng (.cons (.bi .len (.cons (.var 2) .nil)) .nil)) (.nm 4) (.cons (.exp (.mth .append (.var 3) (.cons (.mth .pop (.var 2) (.cons (.call 12 (.cons (.var 0) (.cons (.bi .len (.cons (.var 2) .nil)) .nil))) .nil)) .nil)))
    .nil))
    (.cons (.ret (.var 3))
    .nil)))
def d__law_mixed : Df := ⟨5, 2, b__law_mixed⟩
/-- _law_same -/
def b__law_same : Ss := (.cons (.ife (.inst (.var 1) [.list, .tuple]) (.cons (.ife (.or (.cmp .ne (.inst (.var 0) [.list]) (.inst (.var 1) [.list])) (.cmp .ne (.inst (.var 0) [.tuple]) (.inst (.var 1) [.tuple]))) (.cons (.ret (.cst (.bl false)))
    .nil) .nil)
    (.cons (.ret (.and (.cmp .eq (.bi .len (.cons (.var 0) .nil)) (.bi .len (.cons (.var 1) .nil))) (.bi .all (.cons (.comp (.zip (.var 0) (.var 1)) [2, 3] (.tp (.nm 2) (.tp (.nm 3) .te)) .nil (.call 15 (.cons (.var 2) (.cons (.var 3) .nil)))) .nil))))
    .nil)) .nil)
    (.cons (.ife (.inst (.var 1) [.dict]) (.cons (.ret (.and (.inst (.var 0) [.dict]) (.call 15 (.cons (.items (.var 0)) (.cons (.items (.var 1)) .nil)))))
    .nil) .nil)
    (.cons (.ife (.or (.inst (.var 1) [.bool]) (.inst (.var 0) [.bool])) (.cons (.ret (.and (.inst (.var 1) [.bool]) (.and (.inst (.var 0) [.bool]) (.cmp .eq (.var 0) (.var 1)))))
    .nil) .nil)
    (.cons (.ife (.or (.isN false (.var 1)) (.isN false (.var 0))) (.cons (.ret (.and (.isN false (.var 1)) (.isN false (.var 0))))
    .nil) .nil)
    (.cons (.ife (.or (.cmp .ne (.inst (.var 1) [.int]) (.inst (.var 0) [.int])) (.cmp .ne (.inst (.var 1) [.str]) (.inst (.var 0) [.str]))) (.cons (.ret (.cst (.bl false)))
    .nil) .nil)
    (.cons (.ret (.and (.not (.inst (.var 0) [.list, .tuple, .dict])) (.cmp .eq (.var 0) (.var 1))))
    .nil))))))
def d__law_same : Df := ⟨4, 2, b__law_same⟩
/-- _law_loose -/
def b__law_loose : Ss := (.cons (.ife (.inst (.var 1) [.list, .tuple]) (.cons (.asg (.nm 2) (.comp (.val (.var 1)) [3] (.nm 3) .nil (.call 16 (.cons (.var 0) (.cons (.var 3) .nil)))))
    (.cons (.ret (.ife (.cmp .eq (.call 12 (.cons (.var 0) (.cons (.cst (.int 2)) .nil))) (.cst (.int 0))) (.var 2) (.bi .tuple (.cons (.var 2) .nil))))
    .nil)) .nil)
    (.cons (.ret (.var 1))
    .nil))
def d__law_loose : Df := ⟨4, 2, b__law_loose⟩
/-- _law_spoilt -/
def b__law_spoilt : Ss := (.cons (.ife (.inst (.var 0) [.dict]) (.cons (.for_ (.val (.bi .list (.cons (.var 0) .nil))) (.nm 1) (.cons (.exp (.call 17 (.cons (.idx (.var 0) (.var 1)) .nil)))
    .nil))
    (.cons (.set (.var 0) (.cst (.str (PySem.Str.ofString "late"))) (.cst (.int 1)))
    .nil)) .nil)
    (.cons (.ife (.inst (.var 0) [.list, .tuple]) (.cons (.for_ (.val (.var 0)) (.nm 2) (.cons (.exp (.call 17 (.cons (.var 2) .nil)))
    .nil))
    .nil) .nil)
    (.cons (.ife (.inst (.var 0) [.list]) (.cons (.exp (.mth .append (.var 0) (.cons (.cst (.str (PySem.Str.ofString "late"))) .nil)))
    .nil) .nil)
    .nil)))
def d__law_spoilt : Df := ⟨3, 1, b__law_spoilt⟩
/-- _law_run -/
def b__law_run : Ss := (.cons (.asgs [(.tg (.nm 4)), (.tg (.nm 5)), (.tg (.nm 6)), (.tg (.nm 7))] (.tup (.cons (.var 1) (.cons (.cst (.int 0)) (.cons (.lst .nil) (.cons .dnew .nil))))))
    (.cons (.for_ (.val (.var 3)) (.nm 8) (.cons (.ife (.and (.cmp .eq (.var 8) (.cst (.int 0))) (.cmp .eq (.var 4) (.cst (.int 1)))) (.cons (.par [4, 5] (.cons (.cst (.int 0)) (.cons (.bin .add (.var 5) (.cst (.int 1))) .nil)))
    .nil) (.cons (.ife (.and (.cmp .ne (.var 8) (.cst (.int 0))) (.and (.cmp .eq (.var 4) (.cst (.int 0))) (.cmp (.ord .lt) (.mth .get (.var 7) (.cons (.var 8) (.cons (.cst (.int 0)) .nil))) (.var 2)))) (.cons (.asg (.nm 4) (.cst (.int 1)))
    (.cons (.set (.var 7) (.var 8) (.bin .add (.mth .get (.var 7) (.cons (.var 8) (.cons (.cst (.int 0)) .nil))) (.cst (.int 1))))
    .nil)) .nil)
    .nil))
    (.cons (.exp (.mth .append (.var 6) (.cons (.tup (.cons (.var 4) (.cons (.var 5) .nil))) .nil)))
    .nil)))
    (.cons (.ret (.var 6))
    .nil)))
def d__law_run : Df := ⟨9, 4, b__law_run⟩
/-- _law_tells -/
def b__law_tells : Ss := (.cons (.for_ (.enum (.var 1)) (.tp (.nm 3) (.tp (.nm 4) .te)) (.cons (.ife (.and (.cmp .eq (.var 4) (.cst (.int 0))) (.cmp (.ord .ge) (.idx (.idx (.var 0) (.var 3)) (.cst (.int 1))) (.var 2))) (.cons (.ret (.var 3))
    .nil) .nil)
    .nil))
    (.cons (.ret (.cst .non))
    .nil))
def d__law_tells : Df := ⟨5, 3, b__law_tells⟩
/-- _law_visits -/
def b__law_visits : Ss := (.cons (.par [2, 3] (.cons (.call 12 (.cons (.var 0) (.cons (.cst (.int 4)) .nil))) (.cons (.call 12 (.cons (.var 0) (.cons (.call 13 (.cons (.var 0) (.cons (.lst (.cons (.cst (.int 4)) (.cons (.cst (.int 30)) (.cons (.cst (.int 301)) .nil)))) .nil))) .nil))) .nil)))
    (.cons (.asg (.nm 4) (.comp (.rng (.cons (.var 3) .nil)) [5] (.nm 5) .nil (.call 12 (.cons (.var 0) (.cons (.var 1) .nil)))))
    (.cons (.ife (.cmp .eq (.var 2) (.cst (.int 0))) (.cons (.asg (.nm 4) (.lst .nil))
    (.cons (.for_ (.rng (.cons (.bin .fdiv (.var 3) (.var 1)) .nil)) (.nm 5) (.cons (.exp (.mth .extend (.var 4) (.cons (.call 14 (.cons (.var 0) (.cons (.lrng (.cons (.var 1) .nil)) .nil))) .nil)))
    .nil))
    .nil)) .nil)
    (.cons (.ife (.cmp .eq (.var 2) (.cst (.int 1))) (.cons (.asg (.nm 4) (.comp (.enum (.var 4)) [6, 7] (.tp (.nm 6) (.tp (.nm 7) .te)) .nil (.ife (.cmp .eq (.bin .mod (.var 6) (.cst (.int 2))) (.cst (.int 0))) (.var 7) (.cst (.int 0)))))
    .nil) .nil)
    (.cons (.ife (.and (.cmp .eq (.var 2) (.cst (.int 2))) (.cmp (.ord .gt) (.var 1) (.cst (.int 1)))) (.cons (.asg (.nm 4) (.comp (.val (.var 4)) [7] (.nm 7) .nil (.ife (.cmp (.ord .lt) (.var 7) (.bin .sub (.var 1) (.cst (.int 1)))) (.var 7) (.cst (.int 0)))))
    .nil) .nil)
    (.cons (.ret (.var 4))
    .nil))))))
def d__law_visits : Df := ⟨8, 2, b__law_visits⟩
/-- _law_least -/
def b__law_least : Ss := (.cons (.asg (.nm 1) (.lst (.cons (.lst .nil) .nil)))
    (.cons (.for_ (.rng (.cons (.bin .mul (.cst (.int 2)) (.var 0)) .nil)) (.nm 2) (.cons (.asg (.nm 3) (.lst .nil))
    (.cons (.for_ (.val (.var 1)) (.nm 4) (.cons (.exp (.mth .extend (.var 3) (.cons (.comp (.rng (.cons (.var 0) .nil)) [5] (.nm 5) .nil (.bin .add (.var 4) (.lst (.cons (.var 5) .nil)))) .nil)))
    .nil))
    (.cons (.asg (.nm 1) (.var 3))
    (.cons (.for_ (.val (.var 1)) (.nm 4) (.cons (.ife (.isN true (.call 19 (.cons (.call 18 (.cons (.var 0) (.cons (.cst (.int 0)) (.cons (.cst (.int 1)) (.cons (.var 4) .nil))))) (.cons (.var 4) (.cons (.bin .sub (.var 0) (.cst (.int 1))) .nil))))) (.cons (.ret (.var 4))
    .nil) .nil)
    .nil))
    .nil)))))
    (.cons (.ret (.cst .non))
    .nil)))
def d__law_least : Df := ⟨6, 1, b__law_least⟩
/-- law -/
def b_law : Ss := (.cons (.for_ (.rng (.cons (.cst (.int 6)) .nil)) (.nm 1) (.cons (.asg (.nm 2) (.call 11 (.cons (.bin .add (.bi .list (.cons (.var 0) .nil)) (.lst (.cons (.var 1) .nil))) .nil)))
    (.cons (.asg (.nm 3) (.bin .add (.cst (.int 1)) (.call 12 (.cons (.var 2) (.cons (.ife (.cmp (.ord .lt) (.var 1) (.cst (.int 2))) (.cst (.int 30)) (.cst (.int 5))) .nil)))))
    (.cons (.asg (.nm 4) (.call 20 (.cons (.var 2) (.cons (.var 3) .nil))))
    (.cons (.par [5, 6] (.cons (.call 16 (.cons (.var 2) (.cons (.var 4) .nil))) (.cons (.call 18 (.cons (.var 3) (.cons (.cst (.int 0)) (.cons (.cst (.int 1)) (.cons (.var 4) .nil))))) .nil)))
    (.cons (.par [7, 8] (.cons (.bi .repr (.cons (.var 5) .nil)) (.cons (.lst (.cons (.call 8 (.cons (.var 3) (.cons (.var 5) .nil))) (.cons (.callk 8 .nil (.cons (.bi .list (.cons (.var 4) .nil)) (.cons (.var 3) .nil)) [1, 0]) .nil))) .nil)))
    (.cons (.ife (.not (.call 15 (.cons (.var 8) (.cons (.lst (.cons (.var 6) (.cons (.var 6) .nil))) .nil)))) (.cons (.ret (.cst (.bl false)))
    .nil) .nil)
    (.cons (.exp (.call 17 (.cons (.var 8) .nil)))
    (.cons (.asg (.nm 9) (.call 19 (.cons (.var 6) (.cons (.var 4) (.cons (.bin .sub (.var 3) (.cst (.int 1))) .nil)))))
    (.cons (.asg (.nm 10) (.lst (.cons (.call 8 (.cons (.var 3) (.cons (.var 5) .nil))) (.cons (.call 9 (.cons (.var 3) (.cons (.var 5) .nil))) (.cons (.callk 9 .nil (.cons (.bi .list (.cons (.var 4) .nil)) (.cons (.var 3) .nil)) [1, 0]) .nil)))))
    (.cons (.ife (.or (.not (.call 15 (.cons (.var 10) (.cons (.lst (.cons (.var 6) (.cons (.var 9) (.cons (.var 9) .nil)))) .nil)))) (.cmp .ne (.bi .repr (.cons (.var 5) .nil)) (.var 7))) (.cons (.ret (.cst (.bl false)))
    .nil) .nil)
    (.cons (.ife (.and (.isN true (.var 9)) (.cmp .ne (.bi .len (.cons (.bi .dict (.cons (.comp (.val (.slc (.var 4) .nil (.cons (.bin .add (.var 9) (.cst (.int 1))) .nil))) [12] (.nm 12) .nil (.tup (.cons (.var 12) (.cons (.cst (.int 0)) .nil)))) .nil)) .nil)) (.var 3))) (.cons (.ret (.cst (.bl false)))
    .nil) .nil)
    (.cons (.asg (.nm 11) (.lst (.cons (.cst (.int 0)) .nil)))
    (.cons (.ife (.cmp (.ord .gt) (.var 3) (.cst (.int 1))) (.cons (.asg (.nm 11) (.lst .nil))
    (.cons (.for_ (.rng (.cons (.cst (.int 1)) (.cons (.var 3) .nil))) (.nm 12) (.cons (.exp (.mth .extend (.var 11) (.cons (.lst (.cons (.var 12) (.cons (.cst (.int 0)) .nil))) .nil)))
    .nil))
    .nil)) .nil)
    (.cons (.asg (.nm 8) (.lst (.cons (.call 10 (.cons (.var 3) .nil)) (.cons (.callk 10 .nil (.cons (.var 3) .nil) [0]) .nil))))
    (.cons (.ife (.or (.not (.call 15 (.cons (.var 8) (.cons (.lst (.cons (.var 11) (.cons (.var 11) .nil))) .nil)))) (.not (.call 15 (.cons (.call 9 (.cons (.var 3) (.cons (.bi .list (.cons (.var 11) .nil)) .nil))) (.cons (.bin .sub (.bi .len (.cons (.var 11) .nil)) (.cst (.int 1))) .nil))))) (.cons (.ret (.cst (.bl false)))
    .nil) .nil)
    (.cons (.ife (.and (.cmp (.ord .lt) (.var 3) (.cst (.int 4))) (.cmp .ne (.var 11) (.call 21 (.cons (.var 3) .nil)))) (.cons (.ret (.cst (.bl false)))
    .nil) .nil)
    (.cons (.exp (.call 17 (.cons (.var 8) .nil)))
    (.cons (.ife (.not (.call 15 (.cons (.call 10 (.cons (.var 3) .nil)) (.cons (.var 11) .nil)))) (.cons (.ret (.cst (.bl false)))
    .nil) .nil)
    .nil)))))))))))))))))))
    (.cons (.ret (.cst (.bl true)))
    .nil))
def d_law : Df := ⟨13, 1, b_law⟩

def TT0 : List Df := [d_is_list,
  d_is_whole,
  d_is_number,
  d_is_index,
  d_check_people,
  d_check_visits,
  d_run_of,
  d_telling,
  d_lamp_run,
  d_lamp_tells,
  d_least_run,
  d__law_stream,
  d__law_draw,
  d__law_pick,
  d__law_mixed,
  d__law_same,
  d__law_loose,
  d__law_spoilt,
  d__law_run,
  d__law_tells]
def TT1 : List Df := [d__law_visits,
  d__law_least,
  d_law]
def TT : List Df := TT0 ++ TT1
end HA

namespace HA
open PySem PySem.Spec PyProof.Rows L2

/-! ### the lamp, plainly -/
structure Lm where
  f : Int → Int
  here : Int
  count : Int
def stp (often : Int) (s : Lm) (v : Int) : Lm := if v = 0 then ⟨s.f, 0, s.count + s.here⟩ else if s.here = 0 ∧ s.f v < often then ⟨fun x => if x = v then s.f x + 1 else s.f x, 1, s.count⟩ else s
abbrev lm0 (lit : Int) : Lm := ⟨fun _ => 0, lit, 0⟩
def lmAt (often lit : Int) (l : List Int) (i : Nat) : Lm := (l.take i).foldl (stp often) (lm0 lit)
def prL (s : Lm) : Tr := .tup [.int s.here, .int s.count]
def runT (often lit : Int) (l : List Int) (n : Nat) : List Tr := (List.range n).map fun j => prL (lmAt often lit l (j + 1))
theorem lmAt_succ {often lit : Int} {l : List Int} {i : Nat} {v : Int} (h : l[i]? = some v) : lmAt often lit l (i + 1) = stp often (lmAt often lit l i) v := by
  unfold lmAt
  rw [take_get h, List.foldl_append]
  rfl
theorem runT_succ {often lit : Int} {l : List Int} {n : Nat} : runT often lit l (n + 1) = runT often lit l n ++ [prL (lmAt often lit l (n + 1))] := by
  unfold runT
  rw [List.range_succ, List.map_append]
  rfl
theorem runT_len {often lit : Int} {l : List Int} {n : Nat} : (runT often lit l n).length = n := by
  unfold runT
  rw [List.length_map, List.length_range]

/-! ### run_of -/
abbrev roS (vis : Tr) (p lit often : Int) (tl : List Int) (count here : Int) (found : List Tr) (f3 f4 f5 f6 f7 : Bool) (x8 : Sb) (st : Strm) : BS :=
  ⟨[.val (.int p) false false, .val (.int lit) false false, .val (.int often) false false, .val vis false f3, .val (vL tl) true f4, .val (.int count) false f5, .val (.int here) false f6, .val (.lst found) true f7, x8], st⟩
abbrev ro_body : Ss := (.cons (.ife (.cmp .eq (.var 8) (.cst (.int 0))) (.cons (.par [5, 6] (.cons (.bin .add (.var 5) (.var 6)) (.cons (.cst (.int 0)) .nil)))
    .nil) (.cons (.ife (.and (.cmp .eq (.var 6) (.cst (.int 0))) (.cmp (.ord .lt) (.idx (.var 4) (.var 8)) (.var 2))) (.cons (.asgs [(.sub (.var 4) (.var 8)), (.tg (.nm 6))] (.tup (.cons (.bin .add (.idx (.var 4) (.var 8)) (.cst (.int 1))) (.cons (.cst (.int 1)) .nil))))
    .nil) .nil)
    .nil))
    (.cons (.exp (.mth .append (.var 7) (.cons (.tup (.cons (.var 6) (.cons (.var 5) .nil))) .nil)))
    .nil))
section
variable {C : Cb} {vis : Tr} {p lit often : Int} {tl : List Int} {count here : Int} {found : List Tr} {f3 f4 f5 f6 f7 f8 : Bool} {x8 : Sb} {st : Strm}
theorem ro_app (hf : found.length < BIG) : bex C (.exp (.mth .append (.var 7) (.cons (.tup (.cons (.var 6) (.cons (.var 5) .nil))) .nil))) (roS vis p lit often tl count here found f3 f4 f5 f6 f7 x8 st) =
    .nx (roS vis p lit often tl count here (found ++ [.tup [.int here, .int count]]) f3 f4 f5 f6 f7 x8 st) := by
  have a : ∀ y, mutR .append (.lst found) [y] = some (.lst (found ++ [y]), .non) := fun y => by
    simp only [mutR]
    rw [if_pos hf]
  simp [bex, bev, bevs, RB.bind, RB.st, isMutM, kdT, lvsT, lvsF, mkOld, mkNew, a, imm, immE, immL]
theorem ro_0 {v : Int} (hv : v = 0) (hf : found.length < BIG) : ∃ g5 g6, bexs C ro_body (roS vis p lit often tl count here found f3 f4 f5 f6 f7 (.val (.int v) false f8) st) =
    .nx (roS vis p lit often tl (count + here) 0 (found ++ [.tup [.int 0, .int (count + here)]]) f3 f4 g5 g6 f7 (.val (.int v) false f8) st) := by
  have e := ro_app (C := C) (vis := vis) (p := p) (lit := lit) (often := often) (tl := tl) (count := count + here) (here := 0) (f3 := f3) (f4 := f4) (f5 := true) (f6 := true) (f7 := f7) (x8 := .val (.int v) false f8) (st := st) hf
  refine ⟨true, true, ?_⟩
  refine (b_nx ?_).trans (b_nx e)
  subst hv
  simp [bex, bexs, btst, bev, bevs, RB.bind, RB.st, op1, finT, vaT, cmpT, eqT_int, blB, truB, truT, liftB, binT, addT, newB, mkNew, mutT, immE, nxB, setAllB, BX.seq, imm]
theorem ro_1 {v : Int} {j : Nat} {t : Int} (hv : v ≠ 0) (hj : v = (j : Int)) (ht : tl[j]? = some t) (h0 : here = 0) (hlt : t < often) (hf : found.length < BIG) : ∃ g4 g5 g6, bexs C ro_body (roS vis p lit often tl count here found f3 f4 f5 f6 f7 (.val (.int v) false f8) st) =
    .nx (roS vis p lit often (tl.set j (t + 1)) count 1 (found ++ [.tup [.int 1, .int count]]) f3 g4 g5 g6 f7 (.val (.int v) false f8) st) := by
  have lj : j < tl.length := (List.getElem?_eq_some_iff.mp ht).1
  have ix : atI (tl.map Tr.int) (j : Int) = some (.int t) := by
    rw [atI_nat (by simpa using lj), List.getElem?_map, ht]
    rfl
  have ixn : ixN tl.length (j : Int) = some j := ixN_nat lj
  have e := ro_app (C := C) (vis := vis) (p := p) (lit := lit) (often := often) (tl := tl.set j (t + 1)) (count := count) (here := 1) (f3 := f3) (f4 := f4) (f5 := f5) (f6 := true) (f7 := f7) (x8 := .val (.int v) false f8) (st := st) hf
  refine ⟨f4, f5, true, ?_⟩
  refine (b_nx ?_).trans (b_nx e)
  subst hj h0
  have hv' : ¬ (j = 0) := fun z => hv (by rw [z]; rfl)
  simp [bex, bexs, btst, bev, bevs, RB.bind, RB.st, op1, finT, vaT, cmpT, eqT_int, ordT, ordI, blB, truB, truT, liftB, binT, addT, newB, oldB, mkNew, mkOld, mutT, immE, BX.seq, imm, idxT, ix, hlt, hv', asgGoB, storeB, setT, ixn, tgYB, tgB, spreadB, List.map_set]
theorem ro_2 {v : Int} {j : Nat} {t : Int} (hv : v ≠ 0) (hj : v = (j : Int)) (ht : tl[j]? = some t) (h0 : ¬ (here = 0 ∧ t < often)) (hf : found.length < BIG) : ∃ g4 g5 g6, bexs C ro_body (roS vis p lit often tl count here found f3 f4 f5 f6 f7 (.val (.int v) false f8) st) =
    .nx (roS vis p lit often tl count here (found ++ [.tup [.int here, .int count]]) f3 g4 g5 g6 f7 (.val (.int v) false f8) st) := by
  have lj : j < tl.length := (List.getElem?_eq_some_iff.mp ht).1
  have ix : atI (tl.map Tr.int) (j : Int) = some (.int t) := by
    rw [atI_nat (by simpa using lj), List.getElem?_map, ht]
    rfl
  have e := ro_app (C := C) (vis := vis) (p := p) (lit := lit) (often := often) (tl := tl) (count := count) (here := here) (f3 := f3) (f4 := f4) (f5 := f5) (f6 := f6) (f7 := f7) (x8 := .val (.int v) false f8) (st := st) hf
  refine ⟨f4, f5, f6, ?_⟩
  refine (b_nx ?_).trans (b_nx e)
  subst hj
  have hv' : ¬ (j = 0) := fun z => hv (by rw [z]; rfl)
  by_cases h1 : here = 0
  · have h2 : ¬ (t < often) := fun z => h0 ⟨h1, z⟩
    simp [bex, bexs, btst, bev, bevs, RB.bind, RB.st, op1, finT, vaT, cmpT, eqT_int, ordT, ordI, blB, truB, truT, liftB, oldB, mkOld, BX.seq, imm, idxT, ix, h2, hv', h1]
  · simp [bex, bexs, btst, bev, bevs, RB.bind, RB.st, op1, finT, vaT, cmpT, eqT_int, ordT, ordI, blB, truB, truT, liftB, oldB, mkOld, BX.seq, imm, idxT, ix, hv', h1]
end

/-- what the lamp keeps -/
theorem runOf_b {C : Cb} {vis : Tr} {p lit often : Int} {l : List Int} {st : Strm} (hp : 0 < p) (hp2 : p < 1000000) (hv : vis = vL l ∨ vis = vT l) (hl : l.length < 16777216) (hr : ∀ v ∈ l, 0 ≤ v ∧ v < p) :
    bexs C b_run_of ⟨[.val (.int p) false false, .val (.int lit) false false, .val (.int often) false false, .val vis false false, .no, .no, .no, .no, .no], st⟩ = .rt ⟨.lst (runT often lit l l.length), true, true⟩ st := by
  have rep : (List.replicate p.toNat [Tr.int 0]).flatten = (List.replicate p.toNat 0).map Tr.int := by
    generalize p.toNat = n
    induction n with
    | zero => rfl
    | succ n ih => rw [List.replicate_succ, List.replicate_succ, List.flatten_cons, ih]; rfl
  have s1 : ∃ g4 g5 g6, bex C (.asgs [(.tg (.nm 4)), (.tg (.nm 5)), (.tg (.nm 6)), (.tg (.nm 7))] (.tup (.cons (.bin .mul (.lst (.cons (.cst (.int 0)) .nil)) (.var 0)) (.cons (.cst (.int 0)) (.cons (.var 1) (.cons (.lst .nil) .nil)))))) ⟨[.val (.int p) false false, .val (.int lit) false false, .val (.int often) false false, .val vis false false, .no, .no, .no, .no, .no], st⟩ =
      .nx (roS vis p lit often (List.replicate p.toNat 0) 0 lit [] false g4 g5 g6 true .no st) := by
    have m : mulT (.lst [.int 0]) (.int p) = some (.lst ((List.replicate p.toNat 0).map Tr.int)) := by
      unfold mulT
      simp only []
      rw [if_pos ⟨nin_iff.mpr ⟨by omega, by omega⟩, by show 1 * p.toNat ≤ 16777216; omega⟩, rep]
    exact ⟨true, true, true, by simp [bex, bev, bevs, RB.bind, RB.st, op1, finT, vaT, binT, m, newB, mkNew, mkOld, mutT, immE, immL, imm, asgGoB, tgYB, tgB, spreadB, lvsT, lvsF]⟩
  obtain ⟨g4, g5, g6, s1⟩ := s1
  have it : ∃ a, bevIt C (fun i => nmSs i ro_body) (.val (.var 3)) (roS vis p lit often (List.replicate p.toNat 0) 0 lit [] false g4 g5 g6 true .no st) = .ok (((l.map Tr.int).map fun x => mkOld x a).map .one) (roS vis p lit often (List.replicate p.toNat 0) 0 lit [] false g4 g5 g6 true .no st) := by
    rcases hv with rfl | rfl
    · exact ⟨false || imm (vL l), rfl⟩
    · exact ⟨false || imm (vT l), rfl⟩
  obtain ⟨a, it⟩ := it
  have ylen : ((((l.map Tr.int).map fun x => mkOld x a).map Yb.one)).length = l.length := by simp
  obtain ⟨bs', s2, tl, f4, f5, f6, x8, hb, hlen, htl⟩ := for_inv (tg := .nm 8) (body := bexs C ro_body)
    (fun i bs => ∃ tl f4 f5 f6 x8, bs = roS vis p lit often tl (lmAt often lit l i).count (lmAt often lit l i).here (runT often lit l i) false f4 f5 f6 true x8 st ∧ (tl.length : Int) = p ∧ ∀ j : Nat, j < tl.length → tl[j]? = some ((lmAt often lit l i).f j))
    _ (by
      intro i y bs hy ⟨tl, f4, f5, f6, x8, hb, hlen, htl⟩
      have hi := (List.getElem?_eq_some_iff.mp hy).1
      rw [ylen] at hi
      have gi : l[i]? = some l[i] := List.getElem?_eq_getElem hi
      rw [List.map_map, List.map_map, List.getElem?_map, gi] at hy
      cases hy
      have hrange := hr l[i] (List.getElem_mem hi)
      generalize hv' : l[i] = v at gi hrange
      have es := lmAt_succ (often := often) (lit := lit) gi
      have hf : (runT often lit l i).length < BIG := by
        rw [runT_len]
        show i < 16777216
        omega
      subst hb
      by_cases h0 : v = 0
      · obtain ⟨g5, g6, e⟩ := ro_0 (C := C) (vis := vis) (p := p) (lit := lit) (often := often) (tl := tl) (count := (lmAt often lit l i).count) (here := (lmAt often lit l i).here) (found := runT often lit l i) (f3 := false) (f4 := f4) (f5 := f5) (f6 := f6) (f7 := true) (f8 := a || imm (.int v)) (st := st) h0 hf
        have es2 : lmAt often lit l (i + 1) = ⟨(lmAt often lit l i).f, 0, (lmAt often lit l i).count + (lmAt often lit l i).here⟩ := by rw [es]; unfold stp; rw [if_pos h0]
        refine ⟨_, _, rfl, .inl e, tl, f4, g5, g6, .val (.int v) false (a || imm (.int v)), ?_, hlen, ?_⟩
        · rw [runT_succ, es2]
          rfl
        · rw [es2]; exact htl
      · obtain ⟨j, rfl⟩ := nat_of hrange.1
        have hj : j < tl.length := by omega
        by_cases h1 : (lmAt often lit l i).here = 0 ∧ (lmAt often lit l i).f j < often
        · obtain ⟨g4, g5, g6, e⟩ := ro_1 (C := C) (vis := vis) (p := p) (lit := lit) (often := often) (tl := tl) (count := (lmAt often lit l i).count) (here := (lmAt often lit l i).here) (found := runT often lit l i) (f3 := false) (f4 := f4) (f5 := f5) (f6 := f6) (f7 := true) (f8 := a || imm (.int (j : Int))) (st := st) h0 rfl (htl j hj) h1.1 h1.2 hf
          have es2 : lmAt often lit l (i + 1) = ⟨fun x => if x = (j : Int) then (lmAt often lit l i).f x + 1 else (lmAt often lit l i).f x, 1, (lmAt often lit l i).count⟩ := by rw [es]; unfold stp; rw [if_neg h0, if_pos h1]
          refine ⟨_, _, rfl, .inl e, tl.set j ((lmAt often lit l i).f j + 1), g4, g5, g6, .val (.int (j : Int)) false (a || imm (.int (j : Int))), ?_, ?_, ?_⟩
          · rw [runT_succ, es2]
            rfl
          · rw [List.length_set]; exact hlen
          · intro q hq
            rw [List.length_set] at hq
            rw [es2, List.getElem?_set]
            by_cases hqj : j = q
            · subst hqj
              simp [hq]
            · have : ¬ ((q : Int) = (j : Int)) := by omega
              simp only [this, if_false, hqj]
              exact htl q hq
        · obtain ⟨g4, g5, g6, e⟩ := ro_2 (C := C) (vis := vis) (p := p) (lit := lit) (often := often) (tl := tl) (count := (lmAt often lit l i).count) (here := (lmAt often lit l i).here) (found := runT often lit l i) (f3 := false) (f4 := f4) (f5 := f5) (f6 := f6) (f7 := true) (f8 := a || imm (.int (j : Int))) (st := st) h0 rfl (htl j hj) h1 hf
          have es2 : lmAt often lit l (i + 1) = lmAt often lit l i := by rw [es]; unfold stp; rw [if_neg h0, if_neg h1]
          refine ⟨_, _, rfl, .inl e, tl, g4, g5, g6, .val (.int (j : Int)) false (a || imm (.int (j : Int))), ?_, hlen, ?_⟩
          · rw [runT_succ, es2]
            rfl
          · rw [es2]; exact htl)
    (bs := roS vis p lit often (List.replicate p.toNat 0) 0 lit [] false g4 g5 g6 true .no st)
    ⟨_, _, _, _, _, rfl, by rw [List.length_replicate]; omega, fun j hj => by rw [List.length_replicate] at hj; rw [List.getElem?_replicate, if_pos hj]; rfl⟩
  rw [ylen] at hb
  subst hb
  unfold b_run_of
  rw [b_nx s1, b_nx ((b_for it).trans s2)]
  rfl
end HA

namespace HA
open PySem PySem.Spec PyProof.Rows L2

/-! ### lists of ints, compared -/
theorem eqvAll_ints : ∀ a b : List Int, PyData.eqvAll (a.map .int) (b.map .int) = decide (a = b)
  | [], [] => by simp [PyData.eqvAll]
  | [], y :: b => by simp [PyData.eqvAll]
  | x :: a, [] => by simp [PyData.eqvAll]
  | x :: a, y :: b => by
    simp only [List.map_cons, PyData.eqvAll, PyData.eqv, eqvAll_ints a b]
    by_cases h : x = y <;> by_cases h2 : a = b <;> simp [h, h2]
theorem eqT_vL (ng : Bool) (a b : List Int) : eqT ng (vL a) (vL b) = some (ng ^^ decide (a = b)) := by
  unfold eqT
  rw [show datT DD (vL a) = some (.list (a.map .int)) from dat_vL 39 a, show datT DD (vL b) = some (.list (b.map .int)) from dat_vL 39 b]
  simp only [sh_lst, and_self, if_true, PyData.eqv, eqvAll_ints]
theorem eqT_nil (ng : Bool) (a : List Int) : eqT ng (vL a) (.lst []) = some (ng ^^ decide (a = [])) := eqT_vL ng a []
theorem enumB_mem : ∀ {n : Nat} {xs : List Lv} {y : Yb}, y ∈ enumB n xs → ∃ (k : Nat) (x : Lv), x ∈ xs ∧ y = .two ⟨.int k, true, false⟩ x
  | n, x :: xs, y, m => by
    rcases List.mem_cons.mp m with rfl | m
    · exact ⟨n, x, List.mem_cons_self, rfl⟩
    · obtain ⟨k, z, h, e⟩ := enumB_mem m
      exact ⟨k, z, List.mem_cons_of_mem _ h, e⟩
theorem enumB_get : ∀ (n i : Nat) (xs : List Lv), (enumB n xs)[i]? = (xs[i]?).map fun x => .two ⟨.int ((n + i : Nat) : Int), true, false⟩ x
  | n, i, [] => by simp [enumB]
  | n, 0, x :: xs => rfl
  | n, i + 1, x :: xs => by
    show (enumB (n + 1) xs)[i]? = (xs[i]?).map _
    rw [enumB_get (n + 1) i xs, show n + 1 + i = n + (i + 1) by omega]
theorem enumB_len : ∀ (n : Nat) (xs : List Lv), (enumB n xs).length = xs.length
  | n, [] => rfl
  | n, x :: xs => by
    show (enumB (n + 1) xs).length + 1 = xs.length + 1
    rw [enumB_len]
theorem fm_none {α β : Type} (ys : List α) : ys.filterMap (fun _ => (none : Option β)) = [] := by
  induction ys with
  | nil => rfl
  | cons y ys ih => exact ih

/-! ### the small checks -/
section
variable {ns : List Int} {st : Strm} {f u f2 u2 f3 u3 : Bool}
theorem k_list {k : Nat} {vis : Tr} {l : List Int} (hk : 1 ≤ k) (hv : vis = vL l ∨ vis = vT l) : callB ns 12 TT k 0 [.v ⟨vis, f, u⟩] st = .ok ⟨.bl true, true, false⟩ st := by
  obtain ⟨k, rfl⟩ : ∃ j, k = j + 1 := ⟨k - 1, by omega⟩
  rw [call_go (by decide) rfl]
  rcases hv with rfl | rfl <;> rfl
theorem k_whole {k : Nat} {i : Int} (hk : 1 ≤ k) : callB ns 12 TT k 1 [.v ⟨.int i, f, u⟩] st = .ok ⟨.bl true, true, false⟩ st := by
  obtain ⟨k, rfl⟩ : ∃ j, k = j + 1 := ⟨k - 1, by omega⟩
  rw [call_go (by decide) rfl]
  rfl
theorem k_number {k : Nat} {i : Int} (hk : 2 ≤ k) (hi : 0 ≤ i) : callB ns 12 TT k 2 [.v ⟨.int i, f, u⟩] st = .ok ⟨.bl true, true, false⟩ st := by
  obtain ⟨k, rfl⟩ : ∃ j, k = j + 1 := ⟨k - 1, by omega⟩
  rw [call_go (by decide) rfl]
  refine run_rt rfl ?_
  simp [d_is_number, b_is_number, bexs, bex, bev, bevA, arS, RB.bind, RB.st, RC.to, op1, finT, vaT, mkOld, imm, truT, cmpT, ordT, ordI, blB, BX.seq, k_whole (show 1 ≤ k by omega), hi]
theorem k_index {k : Nat} {i m : Int} (hk : 3 ≤ k) (hi : 0 ≤ i) (hm : i < m) : callB ns 12 TT k 3 [.v ⟨.int i, f, u⟩, .v ⟨.int m, f2, u2⟩] st = .ok ⟨.bl true, true, false⟩ st := by
  obtain ⟨k, rfl⟩ : ∃ j, k = j + 1 := ⟨k - 1, by omega⟩
  rw [call_go (by decide) rfl]
  refine run_rt rfl ?_
  simp [d_is_index, b_is_index, bexs, bex, bev, bevA, arS, RB.bind, RB.st, RC.to, op1, finT, vaT, mkOld, imm, truT, cmpT, ordT, ordI, blB, BX.seq, k_number (show 2 ≤ k by omega) hi, hm]
theorem k_people {k : Nat} {p : Int} (hk : 2 ≤ k) (hp : 1 ≤ p) : callB ns 12 TT k 4 [.v ⟨.int p, f, u⟩] st = .ok ⟨.non, true, false⟩ st := by
  obtain ⟨k, rfl⟩ : ∃ j, k = j + 1 := ⟨k - 1, by omega⟩
  rw [call_go (by decide) rfl]
  have : ¬ (p < 1) := by omega
  refine run_nx (s := ⟨[.val (.int p) false false], st⟩) rfl ?_
  simp [d_check_people, b_check_people, bexs, bex, bev, bevA, btst, arS, RB.bind, RB.st, RC.to, op1, finT, vaT, mkOld, imm, truT, truB, liftB, cmpT, ordT, ordI, blB, BX.seq, k_whole (show 1 ≤ k by omega), this]
def e_cv : E := .comp (.enum (.var 1)) [3, 4] (.tp (.nm 3) (.tp (.nm 4) .te)) (.cons (.not (.call 3 (.cons (.var 4) (.cons (.var 0) .nil)))) .nil) (.var 3)
theorem k_visits {k : Nat} {p : Int} {vis : Tr} {l : List Int} (hk : 4 ≤ k) (hv : vis = vL l ∨ vis = vT l) (hl : l.length < 16777216) (hr : ∀ v ∈ l, 0 ≤ v ∧ v < p) : callB ns 12 TT k 5 [.v ⟨.int p, f, u⟩, .v ⟨vis, f2, u2⟩] st = .ok ⟨.non, true, false⟩ st := by
  obtain ⟨k, rfl⟩ : ∃ j, k = j + 1 := ⟨k - 1, by omega⟩
  rw [call_go (by decide) rfl]
  have hc : ∃ fp, bev ⟨ns, none, callB ns 12 TT k⟩ e_cv ⟨[.val (.int p) false false, .val vis false false, .no, .no, .no], st⟩ = .ok ⟨.lst [], true, true⟩ ⟨[.val (.int p) false fp, .val vis false false, .no, .no, .no], st⟩ := by
    have key : ∀ a fp, ∃ fp', compGoB (compBodyB [3, 4] (.tp (.nm 3) (.tp (.nm 4) .te)) (fun s => (preT (.not (.call 3 (.cons (.var 4) (.cons (.var 0) .nil)))) (bev ⟨ns, none, callB ns 12 TT k⟩ (.not (.call 3 (.cons (.var 4) (.cons (.var 0) .nil))))) s).bind fun x s1 => truB x s1) (bev ⟨ns, none, callB ns 12 TT k⟩ (.var 3))) (enumB 0 ((l.map Tr.int).map fun x => mkOld x a)) [] true ⟨[.val (.int p) false fp, .val vis false false, .no, .no, .no], st⟩ =
        .ok ⟨.lst [], true, true⟩ ⟨[.val (.int p) false fp', .val vis false false, .no, .no, .no], st⟩ := by
      intro a fp
      refine ⟨fp, ?_⟩
      rw [comp_pure (fun _ => none)]
      · rw [fm_none]; rfl
      · intro y hy
        obtain ⟨j, x, hx, rfl⟩ := enumB_mem hy
        rw [List.map_map] at hx
        obtain ⟨v, hv2, rfl⟩ := List.mem_map.mp hx
        have := hr v hv2
        simp [compBodyB, tgSlots, tgYB, tgB, spreadB, wipeB, RB.bind, bev, bevA, mkOld, imm, RC.to, backB, k_index (show 3 ≤ k by omega) this.1 this.2, truT, truB, liftB, finT]
      · rw [enumB_len]
        simp
        show l.length ≤ 16777216
        omega
    obtain ⟨fp', e⟩ := key (false || imm vis) false
    refine ⟨fp', ?_⟩
    rcases hv with rfl | rfl
    · exact e
    · exact e
  obtain ⟨fp, hc⟩ := hc
  refine run_nx (s := ⟨[.val (.int p) false fp, .val vis false false, .val (.lst []) true true, .no, .no], st⟩) rfl ?_
  show bexs _ (.cons _ (.cons (.asg (.nm 2) e_cv) _)) ⟨[.val (.int p) false false, .val vis false false, .no, .no, .no], st⟩ = _
  refine (b_nx (bs1 := ⟨[.val (.int p) false false, .val vis false false, .no, .no, .no], st⟩) ?_).trans ((b_nx (bs1 := ⟨[.val (.int p) false fp, .val vis false false, .val (.lst []) true true, .no, .no], st⟩) ?_).trans ?_)
  · simp [bexs, bex, bev, bevA, btst, arS, RB.bind, RB.st, RC.to, op1, finT, vaT, mkOld, truT, truB, liftB, blB, BX.seq, k_list (show 1 ≤ k by omega) hv]
  · rw [b_asg (fun i g as _ z => by cases z) hc]
    rfl
  · have : eqT true (.lst []) (.lst []) = some false := eqT_vL true [] []
    simp [bexs, bex, bev, bevA, bevs, btst, arS, RB.bind, RB.st, RC.to, op1, finT, vaT, mkOld, mkNew, mutT, truT, truB, liftB, blB, BX.seq, cmpT, this, lvsT, lvsF]
end
end HA

namespace HA
open PySem PySem.Spec PyProof.Rows L2
section
variable {ns : List Int} {st : Strm} {f u f2 u2 f3 u3 : Bool}
theorem k_run {k : Nat} {p lit often : Int} {vis : Tr} {l : List Int} (hk : 1 ≤ k) (hp : 0 < p) (hp2 : p < 1000000) (hv : vis = vL l ∨ vis = vT l) (hl : l.length < 16777216) (hr : ∀ v ∈ l, 0 ≤ v ∧ v < p) :
    ∀ (f u f2 u2 f3 u3 f4 u4 : Bool), callB ns 12 TT k 6 [.v ⟨.int p, f, u⟩, .v ⟨.int lit, f2, u2⟩, .v ⟨.int often, f3, u3⟩, .v ⟨vis, f4, u4⟩] st = .ok ⟨.lst (runT often lit l l.length), true, true⟩ st := by
  obtain ⟨k, rfl⟩ : ∃ j, k = j + 1 := ⟨k - 1, by omega⟩
  have e := runOf_b (C := ⟨ns, none, callB ns 12 TT k⟩) (lit := lit) (often := often) (st := st) hp hp2 hv hl hr
  intro f u f2 u2 f3 u3 f4 u4
  rw [call_go (by decide) rfl]
  exact run_rt rfl e
end
/-! ### the first place -/
def tlQ (often lit wanted : Int) (l : List Int) (i : Nat) : Bool := decide (l[i]? = some 0) && decide (wanted ≤ (lmAt often lit l (i + 1)).count)
def fstQ (Q : Nat → Bool) (n : Nat) : Option Nat := (List.range n).find? Q
def onT : Option Nat → Tr
  | none => .non
  | some i => .int i
def e_tl : E := .comp (.enum (.var 0)) [4, 5, 6] (.tp (.nm 4) (.tp (.tp (.nm 5) (.tp (.nm 6) .te)) .te)) (.cons (.and (.cmp .eq (.idx (.var 1) (.var 4)) (.cst (.int 0))) (.cmp (.ord .ge) (.var 6) (.var 2))) .nil) (.var 4)
theorem runT_get {often lit : Int} {l : List Int} {n i : Nat} (h : i < n) : (runT often lit l n)[i]? = some (prL (lmAt often lit l (i + 1))) := by
  unfold runT
  rw [List.getElem?_map, List.getElem?_range h]
  rfl
def g_tl (often lit wanted : Int) (l : List Int) : Yb → Option Lv
  | .two ⟨.int i, _, _⟩ _ => if tlQ often lit wanted l i.toNat = true then some ⟨.int i, true, false⟩ else none
  | _ => none
theorem tl_comp {C : Cb} {vis : Tr} {lit often wanted : Int} {l : List Int} {st : Strm} {f0 f1 : Bool} (hv : vis = vL l ∨ vis = vT l) (hl : l.length < 16777216) :
    bev C e_tl ⟨[.val (.lst (runT often lit l l.length)) false f0, .val vis false f1, .val (.int wanted) false false, .no, .no, .no, .no], st⟩ = .ok ⟨vL (((List.range l.length).filter (tlQ often lit wanted l)).map fun (i : Nat) => (i : Int)), true, true⟩ ⟨[.val (.lst (runT often lit l l.length)) false f0, .val vis false f1, .val (.int wanted) false false, .no, .no, .no, .no], st⟩ := by
  have key : ∀ a, compGoB (compBodyB [4, 5, 6] (.tp (.nm 4) (.tp (.tp (.nm 5) (.tp (.nm 6) .te)) .te)) (fun s => (preT (.and (.cmp .eq (.idx (.var 1) (.var 4)) (.cst (.int 0))) (.cmp (.ord .ge) (.var 6) (.var 2))) (bev C (.and (.cmp .eq (.idx (.var 1) (.var 4)) (.cst (.int 0))) (.cmp (.ord .ge) (.var 6) (.var 2)))) s).bind fun x s1 => truB x s1) (bev C (.var 4))) (enumB 0 ((runT often lit l l.length).map fun x => mkOld x a)) [] true ⟨[.val (.lst (runT often lit l l.length)) false f0, .val vis false f1, .val (.int wanted) false false, .no, .no, .no, .no], st⟩ =
      .ok ⟨vL (((List.range l.length).filter (tlQ often lit wanted l)).map fun (i : Nat) => (i : Int)), true, true⟩ ⟨[.val (.lst (runT often lit l l.length)) false f0, .val vis false f1, .val (.int wanted) false false, .no, .no, .no, .no], st⟩ := by
    intro a
    rw [comp_pure (g_tl often lit wanted l)]
    · have fmG : ∀ (m n : Nat) (xs : List Lv), xs.length = m → ((enumB n xs).filterMap (g_tl often lit wanted l)) = ((List.range' n m).filter (tlQ often lit wanted l)).map fun (i : Nat) => (⟨.int i, true, false⟩ : Lv) := by
        intro m
        induction m with
        | zero =>
          intro n xs h
          rw [List.eq_nil_of_length_eq_zero h]
          rfl
        | succ m ih =>
          intro n xs h
          cases xs with
          | nil => cases h
          | cons x xs =>
            show ((.two ⟨.int (n : Int), true, false⟩ x :: enumB (n + 1) xs).filterMap _) = _
            rw [List.filterMap_cons, List.range'_succ, List.filter_cons]
            have e1 : g_tl often lit wanted l (.two ⟨.int (n : Int), true, false⟩ x) = if tlQ often lit wanted l n = true then some ⟨.int (n : Int), true, false⟩ else none := rfl
            rw [e1, ih (n + 1) xs (Nat.succ.inj h)]
            by_cases hq : tlQ often lit wanted l n = true
            · rw [if_pos hq, if_pos hq]; rfl
            · rw [if_neg hq, if_neg hq]
      rw [fmG l.length 0 _ (by rw [List.length_map, runT_len]), ← List.range_eq_range']
      simp only [List.nil_append, Bool.true_and]
      congr 2
      · show Tr.lst _ = Tr.lst (List.map Tr.int _); rw [List.map_map, List.map_map]; rfl
      · rw [List.all_map]; exact List.all_eq_true.mpr fun x _ => rfl
    · intro y hy
      obtain ⟨i, hi, e⟩ := List.getElem_of_mem hy
      have hy2 := List.getElem?_eq_getElem hi
      rw [e, enumB_get, List.getElem?_map] at hy2
      rw [enumB_len, List.length_map, runT_len] at hi
      rw [runT_get hi] at hy2
      cases hy2
      have gi : l[i]? = some l[i] := List.getElem?_eq_getElem hi
      have ix : atI (l.map Tr.int) ((0 + i : Nat) : Int) = some (.int l[i]) := by
        rw [Nat.zero_add, atI_nat (by simpa using hi), List.getElem?_map, gi]
        rfl
      have ixv : idxT vis (.int ((0 + i : Nat) : Int)) = some (.int l[i]) := by
        rcases hv with rfl | rfl
        · exact ix
        · exact ix
      have gq : g_tl often lit wanted l (.two ⟨.int ((0 + i : Nat) : Int), true, false⟩ (mkOld (prL (lmAt often lit l (i + 1))) a)) = if l[i] = 0 ∧ wanted ≤ (lmAt often lit l (i + 1)).count then some ⟨.int ((0 + i : Nat) : Int), true, false⟩ else none := by
        show (if tlQ often lit wanted l ((0 + i : Nat) : Int).toNat = true then _ else _) = _
        have : ((0 + i : Nat) : Int).toNat = i := by omega
        rw [this]
        unfold tlQ
        rw [gi]
        simp
      show _ = RB.ok (g_tl often lit wanted l (.two ⟨.int ((0 + i : Nat) : Int), true, false⟩ (mkOld (prL (lmAt often lit l (i + 1))) a))) _
      rw [gq]
      generalize lmAt often lit l (i + 1) = s
      generalize ((0 + i : Nat) : Int) = z at ixv
      generalize l[i] = w at ixv
      by_cases h1 : w = 0
      · by_cases h2 : wanted ≤ s.count
        · simp [prL, compBodyB, tgSlots, tgYB, tgB, spreadB, wipeB, RB.bind, bev, bevA, mkOld, imm, op1, finT, ixv, oldB, vaT, cmpT, eqT_int, ordT, ordI, blB, truT, truB, liftB, backB, h1, h2]
        · simp [prL, compBodyB, tgSlots, tgYB, tgB, spreadB, wipeB, RB.bind, bev, bevA, mkOld, imm, op1, finT, ixv, oldB, vaT, cmpT, eqT_int, ordT, ordI, blB, truT, truB, liftB, backB, h1, h2]
      · simp [prL, compBodyB, tgSlots, tgYB, tgB, spreadB, wipeB, RB.bind, bev, bevA, mkOld, imm, op1, finT, ixv, oldB, vaT, cmpT, eqT_int, ordT, ordI, blB, truT, truB, liftB, backB, h1]
    · rw [enumB_len, List.length_map, runT_len]
      show 0 + l.length ≤ 16777216
      omega
  exact key (f0 || imm (.lst (runT often lit l l.length)))
theorem fst_head {Q : Nat → Bool} {n : Nat} : fstQ Q n = ((List.range n).filter Q).head? := by
  unfold fstQ
  rw [List.head?_filter]
theorem fst_some {Q : Nat → Bool} {n i : Nat} (hi : i < n) (h : Q i = true) (h2 : ∀ j, j < i → Q j = false) : fstQ Q n = some i := by
  unfold fstQ
  rw [List.find?_range_eq_some]
  exact ⟨h, by simpa using hi, fun j hj => by simp [h2 j hj]⟩
theorem fst_none {Q : Nat → Bool} {n : Nat} (h : ∀ j, j < n → Q j = false) : fstQ Q n = none := by
  unfold fstQ
  rw [List.find?_eq_none]
  intro x hx
  rw [h x (by simpa using hx)]
  simp
section
variable {ns : List Int} {st : Strm} {f u f2 u2 f3 u3 : Bool}
theorem k_telling {k : Nat} {lit often wanted : Int} {vis : Tr} {l : List Int} (hk : 1 ≤ k) (hv : vis = vL l ∨ vis = vT l) (hl : l.length < 16777216) :
    callB ns 12 TT k 7 [.v ⟨.lst (runT often lit l l.length), f, u⟩, .v ⟨vis, f2, u2⟩, .v ⟨.int wanted, f3, u3⟩] st = .ok ⟨onT (fstQ (tlQ often lit wanted l) l.length), true, false⟩ st := by
  obtain ⟨k, rfl⟩ : ∃ j, k = j + 1 := ⟨k - 1, by omega⟩
  rw [call_go (by decide) rfl]
  refine run_rt rfl ?_
  show bexs ⟨ns, none, callB ns 12 TT k⟩ (.cons (.asg (.nm 3) e_tl) _) ⟨[.val (.lst (runT often lit l l.length)) false false, .val vis false false, .val (.int wanted) false false, .no, .no, .no, .no], st⟩ = _
  rw [b_nx ((b_asg (fun i g as _ z => by cases z) (tl_comp hv hl)).trans rfl), fst_head]
  cases q : (List.range l.length).filter (tlQ often lit wanted l) with
  | nil =>
    have e := eqT_nil true []
    refine b_rt ?_
    simp [bex, bev, bevs, RB.bind, RB.st, op1, finT, vaT, cmpT, eqT_nil, blB, truT, truB, liftB, mkNew, lvsT, lvsF, mutT, onT, e]
  | cons x xs =>
    have e := eqT_nil true ((x :: xs).map fun (i : Nat) => (i : Int))
    have ix : atI (((x :: xs).map fun (i : Nat) => (i : Int)).map Tr.int) ((0 : Nat) : Int) = some (.int x) := by
      rw [atI_nat (by simp)]
      rfl
    refine b_rt ?_
    simp [bex, bev, bevs, RB.bind, RB.st, op1, finT, vaT, cmpT, blB, truT, truB, liftB, mkNew, lvsT, lvsF, mutT, onT]
    simp at e ix
    simp [e, idxT, ix, oldB, mkOld, imm]
end
end HA

namespace HA
open PySem PySem.Spec PyProof.Rows L2

/-! ### dicts with keys -/
theorem any_map {κ : Type} [DecidableEq κ] {kvs : List (κ × Tr)} {k : κ} : (kvs.any fun kv => decide (kv.1 = k)) = true ↔ (lookT kvs k).isSome = true := by
  unfold lookT
  rw [Option.isSome_map, List.find?_isSome, List.any_eq_true]
theorem look_app {κ : Type} [DecidableEq κ] {kvs : List (κ × Tr)} {k k' : κ} {v : Tr} (h : lookT kvs k = none) : lookT (kvs ++ [(k, v)]) k' = if k = k' then some v else lookT kvs k' := by
  unfold lookT at *
  rw [List.find?_append]
  by_cases e : k = k'
  · subst e
    rw [if_pos rfl]
    have : kvs.find? (fun kv => decide (kv.1 = k)) = none := by simpa using h
    rw [this]
    simp
  · rw [if_neg e]
    cases kvs.find? (fun kv => decide (kv.1 = k')) with
    | none => simp [e]
    | some x => simp
theorem look_map {κ : Type} [DecidableEq κ] {k k' : κ} {v : Tr} : ∀ {kvs : List (κ × Tr)}, (lookT kvs k).isSome = true → lookT (kvs.map fun kv => if kv.1 = k then (kv.1, v) else kv) k' = if k = k' then some v else lookT kvs k' := by
  intro kvs
  induction kvs with
  | nil => intro h; cases h
  | cons a kvs ih =>
    intro h
    by_cases e : a.1 = k
    · have key : ∀ (kvs : List (κ × Tr)), k ≠ k' → lookT (kvs.map fun kv => if kv.1 = k then (kv.1, v) else kv) k' = lookT kvs k' := by
        intro kvs hk
        unfold lookT
        rw [List.find?_map]
        induction kvs with
        | nil => rfl
        | cons b kvs ih =>
          by_cases eb : b.1 = k
          · have n1 : ¬ (b.1 = k') := fun z => hk (eb.symm.trans z)
            simp only [List.find?_cons, Function.comp, eb, if_true]
            have : ¬ (k = k') := hk
            simp only [this, decide_false]
            exact ih
          · simp only [List.find?_cons, Function.comp, eb, if_false]
            by_cases eb' : b.1 = k'
            · simp [eb', eb]
              rw [if_neg (fun z => hk z.symm)]
            · simp only [eb', decide_false]
              exact ih
      by_cases ek : k = k'
      · subst ek
        unfold lookT
        simp [e]
      · rw [if_neg ek]
        exact key (a :: kvs) ek
    · have h2 : (lookT kvs k).isSome = true := by
        unfold lookT at *
        simpa [e] using h
      have ih := ih h2
      unfold lookT at ih ⊢
      rw [List.map_cons, if_neg e]
      by_cases ek : a.1 = k'
      · have : ¬ (k = k') := fun z => e (ek.trans z.symm)
        simp [ek, this]
      · simp only [List.find?_cons, ek, decide_false]
        exact ih
theorem look_put {κ : Type} [DecidableEq κ] {kvs : List (κ × Tr)} {k k' : κ} {v : Tr} : lookT (putT' kvs k v) k' = if k = k' then some v else lookT kvs k' := by
  unfold putT'
  split
  · rename_i h
    exact look_map (any_map.mp h)
  · rename_i h
    refine look_app ?_
    cases q : lookT kvs k with
    | none => rfl
    | some x => exact absurd (any_map.mpr (by rw [q]; rfl)) h
theorem put_len {κ : Type} [DecidableEq κ] {kvs : List (κ × Tr)} {k : κ} {v : Tr} : (putT' kvs k v).length ≤ kvs.length + 1 := by
  unfold putT'
  split
  · rw [List.length_map]; omega
  · rw [List.length_append, List.length_singleton]; omega

/-! ### the law's own run -/
abbrev lrS (vis : Tr) (p lit often here count : Int) (found : List Tr) (kvs : List (Key × Tr)) (f4 f5 f6 f7 : Bool) (x8 : Sb) (st : Strm) : BS :=
  ⟨[.val (.int p) false false, .val (.int lit) false false, .val (.int often) false false, .val vis false false, .val (.int here) false f4, .val (.int count) false f5, .val (.lst found) true f6, .val (.dK kvs) true f7, x8], st⟩
abbrev lr_body : Ss := (.cons (.ife (.and (.cmp .eq (.var 8) (.cst (.int 0))) (.cmp .eq (.var 4) (.cst (.int 1)))) (.cons (.par [4, 5] (.cons (.cst (.int 0)) (.cons (.bin .add (.var 5) (.cst (.int 1))) .nil)))
    .nil) (.cons (.ife (.and (.cmp .ne (.var 8) (.cst (.int 0))) (.and (.cmp .eq (.var 4) (.cst (.int 0))) (.cmp (.ord .lt) (.mth .get (.var 7) (.cons (.var 8) (.cons (.cst (.int 0)) .nil))) (.var 2)))) (.cons (.asg (.nm 4) (.cst (.int 1)))
    (.cons (.set (.var 7) (.var 8) (.bin .add (.mth .get (.var 7) (.cons (.var 8) (.cons (.cst (.int 0)) .nil))) (.cst (.int 1))))
    .nil)) .nil)
    .nil))
    (.cons (.exp (.mth .append (.var 6) (.cons (.tup (.cons (.var 4) (.cons (.var 5) .nil))) .nil)))
    .nil))
section
variable {C : Cb} {vis : Tr} {p lit often : Int} {kvs : List (Key × Tr)} {count here : Int} {found : List Tr} {f4 f5 f6 f7 f8 : Bool} {x8 : Sb} {st : Strm}
theorem lr_app (hf : found.length < BIG) : bex C (.exp (.mth .append (.var 6) (.cons (.tup (.cons (.var 4) (.cons (.var 5) .nil))) .nil))) (lrS vis p lit often here count found kvs f4 f5 f6 f7 x8 st) =
    .nx (lrS vis p lit often here count (found ++ [.tup [.int here, .int count]]) kvs f4 f5 f6 f7 x8 st) := by
  have a : ∀ y, mutR .append (.lst found) [y] = some (.lst (found ++ [y]), .non) := fun y => by
    simp only [mutR]
    rw [if_pos hf]
  simp [bex, bev, bevs, RB.bind, RB.st, isMutM, kdT, lvsT, lvsF, mkOld, mkNew, a, imm, immE, immL]
theorem lr_0 {v : Int} (hv : v = 0) (hh : here = 0 ∨ here = 1) (hf : found.length < BIG) : ∃ g4 g5, bexs C lr_body (lrS vis p lit often here count found kvs f4 f5 f6 f7 (.val (.int v) false f8) st) =
    .nx (lrS vis p lit often 0 (count + here) (found ++ [.tup [.int 0, .int (count + here)]]) kvs g4 g5 f6 f7 (.val (.int v) false f8) st) := by
  subst hv
  rcases hh with rfl | rfl
  · refine ⟨f4, f5, ?_⟩
    rw [Int.add_zero]
    refine (b_nx ?_).trans (b_nx (lr_app hf))
    simp [bex, bexs, btst, bev, bevs, RB.bind, RB.st, op1, finT, vaT, cmpT, eqT_int, blB, truB, truT, liftB, BX.seq, imm]
  · refine ⟨true, true, ?_⟩
    refine (b_nx ?_).trans (b_nx (lr_app hf))
    simp [bex, bexs, btst, bev, bevs, RB.bind, RB.st, op1, finT, vaT, cmpT, eqT_int, blB, truB, truT, liftB, binT, addT, newB, mkNew, mutT, immE, nxB, setAllB, BX.seq, imm]
theorem lr_1 {v t : Int} (hv : v ≠ 0) (ht : (lookT kvs (Sum.inl v)).getD (.int 0) = .int t) (h0 : here = 0) (hlt : t < often) (hf : found.length < BIG) (hk : kvs.length < BIG) : ∃ g4 g7, bexs C lr_body (lrS vis p lit often here count found kvs f4 f5 f6 f7 (.val (.int v) false f8) st) =
    .nx (lrS vis p lit often 1 count (found ++ [.tup [.int 1, .int count]]) (putT' kvs (Sum.inl v) (.int (t + 1))) g4 f5 f6 g7 (.val (.int v) false f8) st) := by
  subst h0
  refine ⟨true, f7, ?_⟩
  refine (b_nx ?_).trans (b_nx (lr_app hf))
  simp [bex, bexs, btst, bev, bevs, RB.bind, RB.st, op1, finT, finsT, vaT, cmpT, eqT_int, ordT, ordI, blB, truB, truT, liftB, binT, addT, newB, oldB, mkNew, mkOld, mutT, immE, BX.seq, imm, isMutM, mtOk, kdT, lookR, dLookT, keyT, ht, hlt, hv, storeB, setT, hk, tgYB, tgB, spreadB, nxB]
theorem lr_2 {v t : Int} (hv : v ≠ 0) (ht : (lookT kvs (Sum.inl v)).getD (.int 0) = .int t) (h0 : ¬ (here = 0 ∧ t < often)) (hf : found.length < BIG) : bexs C lr_body (lrS vis p lit often here count found kvs f4 f5 f6 f7 (.val (.int v) false f8) st) =
    .nx (lrS vis p lit often here count (found ++ [.tup [.int here, .int count]]) kvs f4 f5 f6 f7 (.val (.int v) false f8) st) := by
  refine (b_nx ?_).trans (b_nx (lr_app hf))
  by_cases h1 : here = 0
  · have h2 : ¬ (t < often) := fun z => h0 ⟨h1, z⟩
    simp [bex, bexs, btst, bev, bevs, RB.bind, RB.st, op1, finT, finsT, vaT, cmpT, eqT_int, ordT, ordI, blB, truB, truT, liftB, oldB, mkOld, BX.seq, imm, isMutM, mtOk, kdT, lookR, dLookT, keyT, ht, h2, hv, h1]
  · simp [bex, bexs, btst, bev, bevs, RB.bind, RB.st, op1, finT, vaT, cmpT, eqT_int, ordT, ordI, blB, truB, truT, liftB, oldB, mkOld, BX.seq, imm, hv, h1]
end
theorem here01 {often lit : Int} {l : List Int} (h : lit = 0 ∨ lit = 1) : ∀ i, i ≤ l.length → (lmAt often lit l i).here = 0 ∨ (lmAt often lit l i).here = 1 := by
  intro i
  induction i with
  | zero => intro _; exact h
  | succ i ih =>
    intro hi
    have gi : l[i]? = some l[i] := List.getElem?_eq_getElem (by omega)
    rw [lmAt_succ gi]
    unfold stp
    split
    · exact .inl rfl
    · split
      · exact .inr rfl
      · exact ih (by omega)
theorem lawRun_b {C : Cb} {vis : Tr} {p lit often : Int} {l : List Int} {st : Strm} (hv : vis = vL l) (h01 : lit = 0 ∨ lit = 1) (hl : l.length < 16777216) :
    ∃ f, bexs C b__law_run ⟨[.val (.int p) false false, .val (.int lit) false false, .val (.int often) false false, .val vis false false, .no, .no, .no, .no, .no], st⟩ = .rt ⟨.lst (runT often lit l l.length), f, true⟩ st := by
  subst hv
  have s1 : bex C (.asgs [(.tg (.nm 4)), (.tg (.nm 5)), (.tg (.nm 6)), (.tg (.nm 7))] (.tup (.cons (.var 1) (.cons (.cst (.int 0)) (.cons (.lst .nil) (.cons .dnew .nil)))))) ⟨[.val (.int p) false false, .val (.int lit) false false, .val (.int often) false false, .val (vL l) false false, .no, .no, .no, .no, .no], st⟩ =
      .nx (lrS (vL l) p lit often lit 0 [] [] true true true true .no st) := by
    simp [bex, bev, bevs, RB.bind, RB.st, op1, finT, vaT, newB, mkNew, mkOld, mutT, immE, immL, imm, asgGoB, tgYB, tgB, spreadB, lvsT, lvsF]
  have it : bevIt C (fun i => nmSs i lr_body) (.val (.var 3)) (lrS (vL l) p lit often lit 0 [] [] true true true true .no st) = .ok (((l.map Tr.int).map fun x => mkOld x (false || imm (vL l))).map .one) (lrS (vL l) p lit often lit 0 [] [] true true true true .no st) := rfl
  generalize (false || imm (vL l)) = a at it
  have ylen : ((((l.map Tr.int).map fun x => mkOld x a).map Yb.one)).length = l.length := by simp
  obtain ⟨bs', s2, kvs, f4, f5, f6, f7, x8, hb, hlen, htl⟩ := for_inv (tg := .nm 8) (body := bexs C lr_body)
    (fun i bs => ∃ kvs f4 f5 f6 f7 x8, bs = lrS (vL l) p lit often (lmAt often lit l i).here (lmAt often lit l i).count (runT often lit l i) kvs f4 f5 f6 f7 x8 st ∧ kvs.length ≤ i ∧ ∀ v : Int, (lookT kvs (Sum.inl v)).getD (.int 0) = .int ((lmAt often lit l i).f v))
    _ (by
      intro i y bs hy ⟨kvs, f4, f5, f6, f7, x8, hb, hlen, htl⟩
      have hi := (List.getElem?_eq_some_iff.mp hy).1
      rw [ylen] at hi
      have gi : l[i]? = some l[i] := List.getElem?_eq_getElem hi
      rw [List.map_map, List.map_map, List.getElem?_map, gi] at hy
      cases hy
      generalize hv' : l[i] = v at gi
      have es := lmAt_succ (often := often) (lit := lit) gi
      have hf : (runT often lit l i).length < BIG := by
        rw [runT_len]
        show i < 16777216
        omega
      have hk : kvs.length < BIG := by
        show kvs.length < 16777216
        omega
      have hh := here01 (often := often) (l := l) h01 i (by omega)
      subst hb
      by_cases h0 : v = 0
      · obtain ⟨g4, g5, e⟩ := lr_0 (C := C) (vis := vL l) (p := p) (lit := lit) (often := often) (kvs := kvs) (count := (lmAt often lit l i).count) (here := (lmAt often lit l i).here) (found := runT often lit l i) (f4 := f4) (f5 := f5) (f6 := f6) (f7 := f7) (f8 := a || imm (.int v)) (st := st) h0 hh hf
        have es2 : lmAt often lit l (i + 1) = ⟨(lmAt often lit l i).f, 0, (lmAt often lit l i).count + (lmAt often lit l i).here⟩ := by rw [es]; unfold stp; rw [if_pos h0]
        refine ⟨_, _, rfl, .inl e, kvs, g4, g5, f6, f7, .val (.int v) false (a || imm (.int v)), ?_, by omega, ?_⟩
        · rw [runT_succ, es2]
          rfl
        · rw [es2]; exact htl
      · by_cases h1 : (lmAt often lit l i).here = 0 ∧ (lmAt often lit l i).f v < often
        · obtain ⟨g4, g7, e⟩ := lr_1 (C := C) (vis := vL l) (p := p) (lit := lit) (often := often) (kvs := kvs) (count := (lmAt often lit l i).count) (here := (lmAt often lit l i).here) (found := runT often lit l i) (f4 := f4) (f5 := f5) (f6 := f6) (f7 := f7) (f8 := a || imm (.int v)) (st := st) h0 (htl v) h1.1 h1.2 hf hk
          have es2 : lmAt often lit l (i + 1) = ⟨fun x => if x = v then (lmAt often lit l i).f x + 1 else (lmAt often lit l i).f x, 1, (lmAt often lit l i).count⟩ := by rw [es]; unfold stp; rw [if_neg h0, if_pos h1]
          refine ⟨_, _, rfl, .inl e, putT' kvs (Sum.inl v) (.int ((lmAt often lit l i).f v + 1)), g4, f5, f6, g7, .val (.int v) false (a || imm (.int v)), ?_, ?_, ?_⟩
          · rw [runT_succ, es2]
            rfl
          · exact Nat.le_trans put_len (by omega)
          · intro q
            rw [es2, look_put]
            by_cases hq : v = q
            · subst hq
              simp
            · have h2 : ¬ ((Sum.inl v : Key) = Sum.inl q) := fun z => hq (Sum.inl.inj z)
              have h3 : ¬ (q = v) := fun z => hq z.symm
              rw [if_neg h2]
              simp only [h3, if_false]
              exact htl q
        · have e := lr_2 (C := C) (vis := vL l) (p := p) (lit := lit) (often := often) (kvs := kvs) (count := (lmAt often lit l i).count) (here := (lmAt often lit l i).here) (found := runT often lit l i) (f4 := f4) (f5 := f5) (f6 := f6) (f7 := f7) (f8 := a || imm (.int v)) (st := st) h0 (htl v) h1 hf
          have es2 : lmAt often lit l (i + 1) = lmAt often lit l i := by rw [es]; unfold stp; rw [if_neg h0, if_neg h1]
          refine ⟨_, _, rfl, .inl e, kvs, f4, f5, f6, f7, .val (.int v) false (a || imm (.int v)), ?_, by omega, ?_⟩
          · rw [runT_succ, es2]
            rfl
          · rw [es2]; exact htl)
    (bs := lrS (vL l) p lit often lit 0 [] [] true true true true .no st)
    ⟨[], _, _, _, _, _, rfl, Nat.le_refl _, fun v => rfl⟩
  rw [ylen] at hb
  subst hb
  refine ⟨f6 || imm (.lst (runT often lit l l.length)), ?_⟩
  unfold b__law_run
  rw [b_nx s1, b_nx ((b_for it).trans s2)]
  rfl
end HA

namespace HA
open PySem PySem.Spec PyProof.Rows L2
abbrev lt_body : Ss := (.cons (.ife (.and (.cmp .eq (.var 4) (.cst (.int 0))) (.cmp (.ord .ge) (.idx (.idx (.var 0) (.var 3)) (.cst (.int 1))) (.var 2))) (.cons (.ret (.var 3))
    .nil) .nil)
    .nil)
theorem lawTells_b {C : Cb} {lit often wanted : Int} {l : List Int} {st : Strm} {f0 : Bool} :
    bexs C b__law_tells ⟨[.val (.lst (runT often lit l l.length)) false f0, .val (vL l) false false, .val (.int wanted) false false, .no, .no], st⟩ = .rt ⟨onT (fstQ (tlQ often lit wanted l) l.length), true, false⟩ st := by
  have it : bevIt C (fun i => nmSs i lt_body) (.enum (.var 1)) ⟨[.val (.lst (runT often lit l l.length)) false f0, .val (vL l) false false, .val (.int wanted) false false, .no, .no], st⟩ = .ok (enumB 0 ((l.map Tr.int).map fun x => mkOld x (false || imm (vL l)))) ⟨[.val (.lst (runT often lit l l.length)) false f0, .val (vL l) false false, .val (.int wanted) false false, .no, .no], st⟩ := rfl
  generalize (false || imm (vL l)) = a at it
  have ylen : (enumB 0 ((l.map Tr.int).map fun x => mkOld x a)).length = l.length := by rw [enumB_len]; simp
  have h := for_ret (tg := .tp (.nm 3) (.tp (.nm 4) .te)) (body := bexs C lt_body) (fun v s => s = st ∧ v = ⟨onT (fstQ (tlQ often lit wanted l) l.length), true, false⟩)
    (enumB 0 ((l.map Tr.int).map fun x => mkOld x a))
    (fun i bs => ∃ x3 x4, bs = ⟨[.val (.lst (runT often lit l l.length)) false f0, .val (vL l) false false, .val (.int wanted) false false, x3, x4], st⟩ ∧ ∀ j, j < i → tlQ often lit wanted l j = false) (by
    intro i y bs hy ⟨x3, x4, hb, hq⟩
    have hi := (List.getElem?_eq_some_iff.mp hy).1
    rw [ylen] at hi
    have gi : l[i]? = some l[i] := List.getElem?_eq_getElem hi
    rw [enumB_get, List.map_map, List.getElem?_map, gi, Nat.zero_add] at hy
    cases hy
    subst hb
    have ix : atI (runT often lit l l.length) (i : Int) = some (prL (lmAt often lit l (i + 1))) := by rw [atI_nat (by rw [runT_len]; exact hi), runT_get hi]
    have ix1 : atI [Tr.int (lmAt often lit l (i + 1)).here, Tr.int (lmAt often lit l (i + 1)).count] (1 : Int) = some (.int (lmAt often lit l (i + 1)).count) := rfl
    have qi : tlQ often lit wanted l i = (decide (l[i] = 0) && decide (wanted ≤ (lmAt often lit l (i + 1)).count)) := by
      unfold tlQ
      rw [gi]
      simp
    refine ⟨[.val (.lst (runT often lit l l.length)) false f0, .val (vL l) false false, .val (.int wanted) false false, .val (.int (i : Int)) false true, .val (.int l[i]) false (a || imm (.int l[i]))], rfl, ?_⟩
    cases hqi : tlQ often lit wanted l i with
    | true =>
      right
      rw [fst_some hi hqi hq, show onT (some i) = .int (i : Int) from rfl]
      rw [hqi] at qi
      have q2 := qi.symm
      rw [Bool.and_eq_true, decide_eq_true_eq, decide_eq_true_eq] at q2
      refine ⟨_, _, ?_, rfl, rfl⟩
      rw [q2.1]
      have q3 := q2.2
      simp only [prL] at ix
      revert ix ix1 q3
      generalize lmAt often lit l (i + 1) = s
      generalize (i : Int) = z
      intro ix ix1 q3
      simp [bexs, bex, btst, bev, RB.bind, RB.st, op1, finT, vaT, cmpT, eqT_int, ordT, ordI, blB, truB, truT, liftB, oldB, mkOld, BX.seq, imm, immL, idxT, ix, ix1, q3, onT]
    | false =>
      left
      rw [hqi] at qi
      have q2 := qi.symm
      rw [Bool.and_eq_false_iff, decide_eq_false_iff_not, decide_eq_false_iff_not] at q2
      refine ⟨⟨[.val (.lst (runT often lit l l.length)) false f0, .val (vL l) false false, .val (.int wanted) false false, .val (.int (i : Int)) false true, .val (.int l[i]) false (a || imm (.int l[i]))], st⟩, .inl ?_, _, _, rfl, fun j hj => ?_⟩
      · simp only [prL] at ix
        revert ix ix1 q2
        generalize lmAt often lit l (i + 1) = s
        generalize (i : Int) = z
        generalize l[i] = w
        intro ix ix1 q2
        by_cases h1 : w = 0
        · have h2 : ¬ (wanted ≤ s.count) := q2.resolve_left fun z => z h1
          simp [bexs, bex, btst, bev, RB.bind, RB.st, op1, finT, vaT, cmpT, eqT_int, ordT, ordI, blB, truB, truT, liftB, oldB, mkOld, BX.seq, imm, immL, idxT, ix, ix1, h2, h1]
        · simp [bexs, bex, btst, bev, RB.bind, RB.st, op1, finT, vaT, cmpT, eqT_int, ordT, ordI, blB, truB, truT, liftB, oldB, mkOld, BX.seq, imm, immL, idxT, ix, ix1, h1]
      · rcases Nat.lt_or_ge j i with hj2 | hj2
        · exact hq j hj2
        · rw [show j = i by omega]; exact hqi)
    ⟨[.val (.lst (runT often lit l l.length)) false f0, .val (vL l) false false, .val (.int wanted) false false, .no, .no], st⟩ ⟨.no, .no, rfl, fun j hj => by omega⟩
  rcases h with ⟨bs', e, x3, x4, hb, hq⟩ | ⟨v, s, e, rfl, rfl⟩
  · subst hb
    rw [ylen] at hq
    unfold b__law_tells
    rw [b_nx ((b_for it).trans e), fst_none hq]
    rfl
  · unfold b__law_tells
    exact b_rt ((b_for it).trans e)
end HA

namespace HA
open PySem PySem.Spec PyProof.Rows L2
theorem ints_of {P : Int → Prop} : ∀ {ts : List Tr}, (∀ t ∈ ts, ∃ v, t = .int v ∧ P v) → ∃ l : List Int, ts = l.map .int ∧ ∀ v ∈ l, P v
  | [], _ => ⟨[], rfl, fun v m => by cases m⟩
  | t :: ts, h => by
    obtain ⟨v, rfl, hv⟩ := h t List.mem_cons_self
    obtain ⟨l, rfl, hl⟩ := ints_of fun t m => h t (List.mem_cons_of_mem _ m)
    refine ⟨v :: l, rfl, fun w m => ?_⟩
    rcases List.mem_cons.mp m with rfl | m
    · exact hv
    · exact hl w m
abbrev InR (p : Int) (l : List Int) : Prop := ∀ v ∈ l, 0 ≤ v ∧ v < p
section
variable {ns : List Int} {f u f2 u2 : Bool}
theorem k_pick {k : Nat} {cM c : Int} {st : Strm} {l : List Int} (hk : 2 ≤ k) (hM : cM ≤ CNT) (g : StG c st) (hc : c + 1 ≤ cM) (h0 : l ≠ []) (hl : l.length ≤ 1000) :
    ∃ v st', v ∈ l ∧ callB ns 12 TT k 13 [.s, .v ⟨vL l, f, u⟩] st = .ok ⟨.int v, true, false⟩ st' ∧ StG (c + 1) st' := by
  obtain ⟨k, rfl⟩ : ∃ j, k = j + 1 := ⟨k - 1, by omega⟩
  obtain ⟨t, st', ht, e, g'⟩ := pick_b (C := ⟨ns, none, callB ns 12 TT k⟩) (gd := 12) (ts := l.map Tr.int) (f1 := false) (drawC_of (by omega) hM) g hc (by simpa using h0) (by simp; show l.length ≤ 16777216; omega)
  obtain ⟨v, hv, rfl⟩ := List.mem_map.mp ht
  refine ⟨v, st', hv, ?_, g'⟩
  rw [call_go (by decide) rfl]
  refine run_rt rfl (e.trans ?_)
  simp [mkOld, imm]
theorem k_mixed {k : Nat} {cM c : Int} {st : Strm} {ts : List Tr} (hk : 2 ≤ k) (hM : cM ≤ CNT) (g : StG c st) (hc : c + ts.length ≤ cM) (hl : ts.length < 16777216) :
    ∃ rs fr st', callB ns 12 TT k 14 [.s, .v ⟨.lst ts, f, u⟩] st = .ok ⟨.lst rs, fr, true⟩ st' ∧ rs.Perm ts ∧ StG (c + ts.length) st' := by
  obtain ⟨k, rfl⟩ : ∃ j, k = j + 1 := ⟨k - 1, by omega⟩
  obtain ⟨rs, fr, st', e, hp, g'⟩ := mixed_b (C := ⟨ns, none, callB ns 12 TT k⟩) (gd := 12) (f1 := false) (drawC_of (by omega) hM) g hc hl
  refine ⟨rs, fr, st', ?_, hp, g'⟩
  rw [call_go (by decide) rfl]
  exact run_rt rfl e
end
abbrev lvS (p way many : Int) (f1 : Bool) (x4 x5 : Sb) (st : Strm) : BS := ⟨[.st, .val (.int p) false f1, .val (.int way) false true, .val (.int many) false true, x4, x5, .no, .no], st⟩
section
variable {C : Cb} {p way many cM c : Int} {f1 : Bool} {x4 x5 : Sb} {st : Strm}
def e_v1 : E := .comp (.rng (.cons (.var 3) .nil)) [5] (.nm 5) .nil (.call 12 (.cons (.var 0) (.cons (.var 1) .nil)))
theorem v_rng {C : Cb} {nm : Nat → Bool} (hm : 0 ≤ many) (hm2 : many < 1000000) : bevIt C nm (.rng (.cons (.var 3) .nil)) (lvS p way many f1 x4 x5 st) = .ok ((rngL 0 many).map fun k => .one ⟨.int k, true, false⟩) (lvS p way many f1 x4 x5 st) := by
  have e : rngT [.int many] = some (0, many) := by
    unfold rngT
    simp only []
    rw [if_pos (nin_iff.mpr ⟨by omega, by omega⟩)]
  simp [bevIt, bev, bevT, RB.bind, finT, finsT, e]
theorem v_1 (hd : DrawC C 12 cM) (g : StG c st) (hc : c + many ≤ cM) (hm : 0 ≤ many) (hm2 : many < 1000000) (hp : 0 < p) (hp2 : p < 1000000) :
    ∃ l f st', bev C e_v1 (lvS p way many f1 .no .no st) = .ok ⟨vL l, f, true⟩ (lvS p way many f1 .no .no st') ∧ (l.length : Int) = many ∧ InR p l ∧ StG (c + many) st' := by
  have ylen : ((rngL 0 many).map fun k => Yb.one ⟨.int k, true, false⟩).length = many.toNat := by
    rw [List.length_map, rngL_len]
    omega
  obtain ⟨acc, f, bs', e, l, st', rfl, hl, hr, rfl, g'⟩ := comp_inv (body := compBodyB [5] (.nm 5) (fun s => .ok true s) (bev C (.call 12 (.cons (.var 0) (.cons (.var 1) .nil))))) ((rngL 0 many).map fun k => .one ⟨.int k, true, false⟩)
    (fun i acc bs => ∃ l st', acc = l.map Tr.int ∧ l.length = i ∧ InR p l ∧ bs = lvS p way many f1 .no .no st' ∧ StG (c + i) st') (by
      intro i y acc bs hy ⟨l, st1, ha, hl, hr, hb, g1⟩
      have hi := (List.getElem?_eq_some_iff.mp hy).1
      rw [ylen] at hi
      obtain ⟨kk, rfl⟩ : ∃ kk, y = Yb.one ⟨.int kk, true, false⟩ := by
        rw [List.getElem?_map] at hy
        cases q : (rngL 0 many)[i]? with
        | none => rw [q] at hy; cases hy
        | some z => rw [q] at hy; cases hy; exact ⟨z, rfl⟩
      obtain ⟨d, st2, e, a, b, g2⟩ := hd (c + i) st1 p true false g1 (by omega) hp (by omega)
      subst ha hb
      refine ⟨⟨.int d, true, false⟩, lvS p way many f1 .no .no st2, ?_, l ++ [d], st2, by simp, by simp [hl], ?_, rfl, by rw [show c + ((i + 1 : Nat) : Int) = c + i + 1 by omega]; exact g2⟩
      · simp [compBodyB, tgSlots, tgYB, tgB, spreadB, wipeB, RB.bind, bev, bevA, mkOld, imm, RC.to, backB, e]
      · intro v hv
        rcases List.mem_append.mp hv with hv | hv
        · exact hr v hv
        · rw [List.mem_singleton.mp hv]; exact ⟨a, b⟩) [] true _ (by rw [ylen]; show 0 + many.toNat ≤ 16777216; omega) ⟨[], st, rfl, rfl, (fun v m => by cases m), rfl, by simpa using g⟩
  rw [ylen] at hl g'
  refine ⟨l, f, st', ?_, by omega, hr, by rw [show c + many = c + (many.toNat : Int) by omega]; exact g'⟩
  unfold e_v1 bev
  rw [v_rng hm hm2]
  exact e
abbrev v3_body : Ss := .cons (.exp (.mth .extend (.var 4) (.cons (.call 14 (.cons (.var 0) (.cons (.lrng (.cons (.var 1) .nil)) .nil))) .nil))) .nil
theorem rngL_mem {a b v : Int} (h : v ∈ rngL a b) : a ≤ v ∧ v < b := by
  unfold rngL at h
  obtain ⟨i, hi, rfl⟩ := List.mem_map.mp h
  have := List.mem_range.mp hi
  omega
end
theorem v_3 {ns : List Int} {k : Nat} {p way many cM c : Int} {st : Strm} {f1 : Bool} (hk : 2 ≤ k) (hM : cM ≤ CNT) (g : StG c st) (hc : c + many ≤ cM) (hm : 0 ≤ many) (hm2 : many < 1000000) (hp : 0 < p) (hp2 : p < 1000000) {fl : Bool} :
    ∃ l f x5 st', bex ⟨ns, none, callB ns 12 TT k⟩ (.for_ (.rng (.cons (.bin .fdiv (.var 3) (.var 1)) .nil)) (.nm 5) v3_body) (lvS p way many f1 (.val (.lst []) true fl) .no st) = .nx (lvS p way many f1 (.val (vL l) true f) x5 st') ∧ (l.length : Int) ≤ many ∧ InR p l ∧ StG (c + many) st' := by
  have q0 : 0 ≤ many / p := Int.ediv_nonneg hm (by omega)
  have q1 : many / p * p ≤ many := Int.ediv_mul_le many (by omega)
  have q2 : many / p ≤ many := Int.ediv_le_self p hm
  have it : bevIt ⟨ns, none, callB ns 12 TT k⟩ (fun i => nmSs i v3_body) (.rng (.cons (.bin .fdiv (.var 3) (.var 1)) .nil)) (lvS p way many f1 (.val (.lst []) true fl) .no st) = .ok ((rngL 0 (many / p)).map fun k => .one ⟨.int k, true, false⟩) (lvS p way many f1 (.val (.lst []) true fl) .no st) := by
    have e : rngT [.int (many / p)] = some (0, many / p) := by
      unfold rngT
      simp only []
      rw [if_pos (nin_iff.mpr ⟨by omega, by omega⟩)]
    have e2 : fdivT (.int many) (.int p) = some (.int (many / p)) := by
      unfold fdivT
      simp only []
      rw [if_pos (pin_iff.mpr ⟨hp, by omega⟩)]
    simp [bevIt, bev, bevT, RB.bind, op1, finT, finsT, binT, e2, newB, mkNew, e]
  have ylen : ((rngL 0 (many / p)).map fun k => Yb.one ⟨.int k, true, false⟩).length = (many / p).toNat := by
    rw [List.length_map, rngL_len]
    omega
  have er : rngT [.int p] = some (0, p) := by
    unfold rngT
    simp only []
    rw [if_pos (nin_iff.mpr ⟨by omega, by omega⟩)]
  obtain ⟨bs', s2, l, f, x5, st', hb, hl, hr, g'⟩ := for_inv (tg := .nm 5) (body := bexs ⟨ns, none, callB ns 12 TT k⟩ v3_body)
    (fun i bs => ∃ l f x5 st', bs = lvS p way many f1 (.val (vL l) true f) x5 st' ∧ (l.length : Int) = i * p ∧ InR p l ∧ StG (c + i * p) st')
    ((rngL 0 (many / p)).map fun k => .one ⟨.int k, true, false⟩) (by
      intro i y bs hy ⟨l, f, x5, st1, hb, hl, hr, g1⟩
      have hi := (List.getElem?_eq_some_iff.mp hy).1
      rw [ylen] at hi
      obtain ⟨kk, rfl⟩ : ∃ kk, y = Yb.one ⟨.int kk, true, false⟩ := by
        rw [List.getElem?_map] at hy
        cases q : (rngL 0 (many / p))[i]? with
        | none => rw [q] at hy; cases hy
        | some z => rw [q] at hy; cases hy; exact ⟨z, rfl⟩
      have m1 : ((i : Int) + 1) * p ≤ many / p * p := Int.mul_le_mul_of_nonneg_right (by omega) (by omega)
      have m2 : ((i : Int) + 1) * p = i * p + p := by rw [Int.add_mul, Int.one_mul]
      have lenr : ((rngL 0 p).map Tr.int).length = p.toNat := by rw [List.length_map, rngL_len]; omega
      obtain ⟨rs, fr, st2, e, hperm, g2⟩ := k_mixed (ns := ns) (f := true) (u := true) (k := k) (ts := (rngL 0 p).map Tr.int) hk hM g1 (by rw [lenr]; omega) (by rw [lenr]; omega)
      obtain ⟨r, rfl, hrr⟩ := ints_of (P := fun v => 0 ≤ v ∧ v < p) (ts := rs) fun t ht => by
        obtain ⟨v, hv, rfl⟩ := List.mem_map.mp (hperm.mem_iff.mp ht)
        exact ⟨v, rfl, rngL_mem hv⟩
      have lr : r.length = p.toNat := by
        have := hperm.length_eq
        rw [List.length_map, lenr] at this
        exact this
      rw [lenr] at g2
      subst hb
      have ext : mutR .extend (vL l) [.lst (r.map Tr.int)] = some (vL (l ++ r), .non) := by
        simp only [mutR]
        rw [if_pos (by show (l.map Tr.int).length + (r.map Tr.int).length ≤ 16777216; rw [List.length_map, List.length_map]; omega)]
        simp
      have lb : p ≤ 16777216 := by omega
      refine ⟨_, lvS p way many f1 (.val (vL (l ++ r)) true (f && lvsF [⟨.lst (r.map Tr.int), fr, true⟩])) (.val (.int kk) false true) st2, rfl, .inl ?_, _, _, _, _, rfl, ?_, ?_, ?_⟩
      · simp [bexs, bex, bev, bevA, bevs, bevT, RB.bind, RB.st, finT, finsT, RC.to, BX.seq, isMutM, kdT, er, lb, e, lvsT, lvsF, ext]
      · rw [List.length_append, lr, show ((i + 1 : Nat) : Int) = (i : Int) + 1 by omega, m2]
        omega
      · intro v hv
        rcases List.mem_append.mp hv with hv | hv
        · exact hr v hv
        · exact hrr v hv
      · rw [show c + ((i + 1 : Nat) : Int) * p = c + i * p + (p.toNat : Int) by rw [show ((i + 1 : Nat) : Int) = (i : Int) + 1 by omega, m2]; omega]
        exact g2)
    (bs := lvS p way many f1 (.val (.lst []) true fl) .no st) ⟨[], fl, .no, st, rfl, by simp, (fun v m => by cases m), by simpa using g⟩
  rw [ylen] at hl g'
  have : ((many / p).toNat : Int) = many / p := by omega
  rw [this] at hl g'
  subst hb
  exact ⟨l, f, x5, st', (b_for it).trans s2, by omega, hr, g'.up (by omega)⟩
end HA

namespace HA
open PySem PySem.Spec PyProof.Rows L2
section
variable {C : Cb} {p way many : Int} {f1 f : Bool} {x5 : Sb} {st : Strm} {l : List Int}
def e_v4 : E := .comp (.enum (.var 4)) [6, 7] (.tp (.nm 6) (.tp (.nm 7) .te)) .nil (.ife (.cmp .eq (.bin .mod (.var 6) (.cst (.int 2))) (.cst (.int 0))) (.var 7) (.cst (.int 0)))
def e_v5 : E := .comp (.val (.var 4)) [7] (.nm 7) .nil (.ife (.cmp (.ord .lt) (.var 7) (.bin .sub (.var 1) (.cst (.int 1)))) (.var 7) (.cst (.int 0)))
theorem v_4 (hp : 0 < p) (hl : l.length < 1000000) (hr : InR p l) : ∃ l' f', bev C e_v4 (lvS p way many f1 (.val (vL l) true f) x5 st) = .ok ⟨vL l', f', true⟩ (lvS p way many f1 (.val (vL l) true f) x5 st) ∧ l'.length = l.length ∧ InR p l' := by
  have key : ∀ a, ∃ acc f' bs', compGoB (compBodyB [6, 7] (.tp (.nm 6) (.tp (.nm 7) .te)) (fun s => .ok true s) (bev C (.ife (.cmp .eq (.bin .mod (.var 6) (.cst (.int 2))) (.cst (.int 0))) (.var 7) (.cst (.int 0))))) (enumB 0 ((l.map Tr.int).map fun x => mkOld x a)) [] true (lvS p way many f1 (.val (vL l) true f) x5 st) = .ok ⟨.lst acc, f', true⟩ bs' ∧ ∃ l', acc = l'.map Tr.int ∧ l'.length = (enumB 0 ((l.map Tr.int).map fun x => mkOld x a)).length ∧ InR p l' ∧ bs' = lvS p way many f1 (.val (vL l) true f) x5 st := by
    intro a
    refine comp_inv _ (fun i acc bs => ∃ l', acc = l'.map Tr.int ∧ l'.length = i ∧ InR p l' ∧ bs = lvS p way many f1 (.val (vL l) true f) x5 st) (fun i y acc bs hy ⟨l1, ha, hl1, hr1, hb⟩ => ?_) [] true _ (by rw [enumB_len]; simp; show l.length ≤ 16777216; omega) ⟨[], rfl, rfl, (fun v m => by cases m), rfl⟩
    have hi := (List.getElem?_eq_some_iff.mp hy).1
    rw [enumB_len, List.length_map, List.length_map] at hi
    have gi : l[i]? = some l[i] := List.getElem?_eq_getElem hi
    rw [enumB_get, List.map_map, List.getElem?_map, gi, Nat.zero_add] at hy
    cases hy
    have rv := hr l[i] (List.getElem_mem hi)
    subst ha hb
    have step : ∀ w, ((if (i : Int) % 2 = 0 then l[i] else 0) = w) → compBodyB [6, 7] (.tp (.nm 6) (.tp (.nm 7) .te)) (fun s => .ok true s) (bev C (.ife (.cmp .eq (.bin .mod (.var 6) (.cst (.int 2))) (.cst (.int 0))) (.var 7) (.cst (.int 0)))) (.two ⟨.int (i : Int), true, false⟩ (mkOld (.int l[i]) a)) (lvS p way many f1 (.val (vL l) true f) x5 st) = .ok (some ⟨.int w, true, false⟩) (lvS p way many f1 (.val (vL l) true f) x5 st) := by
      intro w hw
      subst hw
      generalize (i : Int) = z
      by_cases h : z % 2 = 0
      · simp [compBodyB, tgSlots, tgYB, tgB, spreadB, wipeB, RB.bind, bev, mkOld, mkNew, mutT, immE, imm, backB, finT, op1, binT, modT, newB, vaT, cmpT, eqT_int, blB, truB, truT, liftB, h]
      · simp [compBodyB, tgSlots, tgYB, tgB, spreadB, wipeB, RB.bind, bev, mkOld, mkNew, mutT, immE, imm, backB, finT, op1, binT, modT, newB, vaT, cmpT, eqT_int, blB, truB, truT, liftB, h]
    refine ⟨_, _, step _ rfl, l1 ++ [_], by simp; rfl, by simp [hl1], ?_, rfl⟩
    intro v hv
    rcases List.mem_append.mp hv with hv | hv
    · exact hr1 v hv
    · rw [List.mem_singleton.mp hv]
      split
      · exact rv
      · omega
  obtain ⟨acc, f', bs', e, l', rfl, hl', hr', rfl⟩ := key (f || imm (vL l))
  rw [enumB_len, List.length_map, List.length_map] at hl'
  exact ⟨l', f', e, hl', hr'⟩
theorem v_5 (hp : 0 < p) (hl : l.length < 1000000) (hr : InR p l) : ∃ l' f', bev C e_v5 (lvS p way many f1 (.val (vL l) true f) x5 st) = .ok ⟨vL l', f', true⟩ (lvS p way many f1 (.val (vL l) true f) x5 st) ∧ l'.length = l.length ∧ InR p l' := by
  have key : ∀ a, ∃ acc f' bs', compGoB (compBodyB [7] (.nm 7) (fun s => .ok true s) (bev C (.ife (.cmp (.ord .lt) (.var 7) (.bin .sub (.var 1) (.cst (.int 1)))) (.var 7) (.cst (.int 0))))) (((l.map Tr.int).map fun x => mkOld x a).map .one) [] true (lvS p way many f1 (.val (vL l) true f) x5 st) = .ok ⟨.lst acc, f', true⟩ bs' ∧ ∃ l', acc = l'.map Tr.int ∧ l'.length = (((l.map Tr.int).map fun x => mkOld x a).map Yb.one).length ∧ InR p l' ∧ bs' = lvS p way many f1 (.val (vL l) true f) x5 st := by
    intro a
    refine comp_inv _ (fun i acc bs => ∃ l', acc = l'.map Tr.int ∧ l'.length = i ∧ InR p l' ∧ bs = lvS p way many f1 (.val (vL l) true f) x5 st) (fun i y acc bs hy ⟨l1, ha, hl1, hr1, hb⟩ => ?_) [] true _ (by simp; show l.length ≤ 16777216; omega) ⟨[], rfl, rfl, (fun v m => by cases m), rfl⟩
    have hi := (List.getElem?_eq_some_iff.mp hy).1
    rw [List.length_map, List.length_map, List.length_map] at hi
    have gi : l[i]? = some l[i] := List.getElem?_eq_getElem hi
    rw [List.map_map, List.map_map, List.getElem?_map, gi] at hy
    cases hy
    have rv := hr l[i] (List.getElem_mem hi)
    subst ha hb
    have step : ∀ w, ((if l[i] < p - 1 then l[i] else 0) = w) → compBodyB [7] (.nm 7) (fun s => .ok true s) (bev C (.ife (.cmp (.ord .lt) (.var 7) (.bin .sub (.var 1) (.cst (.int 1)))) (.var 7) (.cst (.int 0)))) (.one (mkOld (.int l[i]) a)) (lvS p way many f1 (.val (vL l) true f) x5 st) = .ok (some ⟨.int w, true, false⟩) (lvS p way many f1 (.val (vL l) true f) x5 st) := by
      intro w hw
      subst hw
      by_cases h : l[i] < p - 1
      · simp [compBodyB, tgSlots, tgYB, tgB, spreadB, wipeB, RB.bind, bev, mkOld, mkNew, mutT, immE, imm, backB, finT, op1, binT, subT, newB, vaT, cmpT, ordT, ordI, blB, truB, truT, liftB, h]
      · simp [compBodyB, tgSlots, tgYB, tgB, spreadB, wipeB, RB.bind, bev, mkOld, mkNew, mutT, immE, imm, backB, finT, op1, binT, subT, newB, vaT, cmpT, ordT, ordI, blB, truB, truT, liftB, h]
    refine ⟨_, _, step _ rfl, l1 ++ [_], by simp; rfl, by simp [hl1], ?_, rfl⟩
    intro v hv
    rcases List.mem_append.mp hv with hv | hv
    · exact hr1 v hv
    · rw [List.mem_singleton.mp hv]
      split
      · exact rv
      · omega
  obtain ⟨acc, f', bs', e, l', rfl, hl', hr', rfl⟩ := key (f || imm (vL l))
  rw [List.length_map, List.length_map, List.length_map] at hl'
  exact ⟨l', f', e, hl', hr'⟩
end
theorem k_lv {ns : List Int} {k : Nat} {cM c p : Int} {st : Strm} (hk : 4 ≤ k) (hM : cM ≤ CNT) (g : StG c st) (hc : c + 700 ≤ cM) (hp : 0 < p) (hp2 : p < 1000000) :
    ∃ l fr st', (∀ f u, callB ns 12 TT k 20 [.s, .v ⟨.int p, f, u⟩] st = .ok ⟨vL l, fr, true⟩ st') ∧ l.length ≤ 300 ∧ InR p l ∧ StG (c + 700) st' := by
  obtain ⟨k, rfl⟩ : ∃ j, k = j + 1 := ⟨k - 1, by omega⟩
  have hd : DrawC ⟨ns, none, callB ns 12 TT k⟩ 12 cM := drawC_of (by omega) hM
  obtain ⟨way, st1, e1, _, _, g1⟩ := hd c st 4 true false g (by omega) (by decide) (by decide)
  obtain ⟨m, st2, hm, e2, g2⟩ := k_pick (ns := ns) (f := true) (u := true) (k := k) (l := [4, 30, 301]) (by omega) hM g1 (by omega) (by simp) (by simp)
  have hm2 : 0 < m ∧ m ≤ 301 := by
    simp at hm
    rcases hm with rfl | rfl | rfl <;> decide
  obtain ⟨many, st3, e3, a3, b3, g3⟩ := hd _ st2 m true false g2 (by omega) hm2.1 (by omega)
  dsimp only at e1 e3
  have s1 : bex ⟨ns, none, callB ns 12 TT k⟩ (.par [2, 3] (.cons (.call 12 (.cons (.var 0) (.cons (.cst (.int 4)) .nil))) (.cons (.call 12 (.cons (.var 0) (.cons (.call 13 (.cons (.var 0) (.cons (.lst (.cons (.cst (.int 4)) (.cons (.cst (.int 30)) (.cons (.cst (.int 301)) .nil)))) .nil))) .nil))) .nil))) ⟨[.st, .val (.int p) false false, .no, .no, .no, .no, .no, .no], st⟩ = .nx (lvS p way many false .no .no st3) := by
    simp only [vL, List.map] at e2
    simp [bex, bev, bevs, bevA, RB.bind, RB.st, RC.to, vaT, e1, e2, e3, mkNew, lvsT, lvsF, mutT, immE, immL, imm, nxB, setAllB]
  obtain ⟨l1, f1, st4, e4, hl1, hr1, g4⟩ := v_1 (C := ⟨ns, none, callB ns 12 TT k⟩) (p := p) (way := way) (many := many) (f1 := false) hd g3 (by omega) a3 (by omega) hp hp2
  have s2 : bex ⟨ns, none, callB ns 12 TT k⟩ (.asg (.nm 4) e_v1) (lvS p way many false .no .no st3) = .nx (lvS p way many false (.val (vL l1) true f1) .no st4) := by
    rw [b_asg (fun i g as _ z => by cases z) e4]
    rfl
  have s3 : ∃ l2 f2 x5 st5, bex ⟨ns, none, callB ns 12 TT k⟩ (.ife (.cmp .eq (.var 2) (.cst (.int 0))) (.cons (.asg (.nm 4) (.lst .nil)) (.cons (.for_ (.rng (.cons (.bin .fdiv (.var 3) (.var 1)) .nil)) (.nm 5) v3_body) .nil)) .nil) (lvS p way many false (.val (vL l1) true f1) .no st4) = .nx (lvS p way many false (.val (vL l2) true f2) x5 st5) ∧ l2.length ≤ 300 ∧ InR p l2 ∧ StG (c + 1 + 1 + 1 + many + many) st5 := by
    have t : btst ⟨ns, none, callB ns 12 TT k⟩ (.cmp .eq (.var 2) (.cst (.int 0))) (lvS p way many false (.val (vL l1) true f1) .no st4) = .ok (decide (way = 0)) (lvS p way many false (.val (vL l1) true f1) .no st4) := by
      simp [btst, bev, RB.bind, op1, finT, vaT, cmpT, eqT_int, blB, truB, truT, liftB]
    rw [b_ife t]
    by_cases h : way = 0
    · rw [if_pos (by simp [h])]
      obtain ⟨l2, f2, x5, st5, e5, hl2, hr2, g5⟩ := v_3 (ns := ns) (k := k) (p := p) (way := way) (many := many) (f1 := false) (fl := true) (by omega) hM g4 (by omega) a3 (by omega) hp hp2
      refine ⟨l2, f2, x5, st5, ?_, by omega, hr2, g5⟩
      refine (b_nx (bs1 := lvS p way many false (.val (.lst []) true true) .no st4) ?_).trans (b_nx e5)
      rw [b_asg (v := ⟨.lst [], true, true⟩) (bs1 := lvS p way many false (.val (vL l1) true f1) .no st4) (fun i g as _ z => by cases z) (by simp [bev, bevs, RB.bind, mkNew, lvsT, lvsF, mutT])]
      rfl
    · rw [if_neg (by simp [h])]
      exact ⟨l1, f1, .no, st4, rfl, by omega, hr1, g4.up (by omega)⟩
  obtain ⟨l2, f2, x5, st5, s3, hl2, hr2, g5⟩ := s3
  have s4 : ∃ l3 f3, bex ⟨ns, none, callB ns 12 TT k⟩ (.ife (.cmp .eq (.var 2) (.cst (.int 1))) (.cons (.asg (.nm 4) e_v4) .nil) .nil) (lvS p way many false (.val (vL l2) true f2) x5 st5) = .nx (lvS p way many false (.val (vL l3) true f3) x5 st5) ∧ l3.length ≤ 300 ∧ InR p l3 := by
    have t : btst ⟨ns, none, callB ns 12 TT k⟩ (.cmp .eq (.var 2) (.cst (.int 1))) (lvS p way many false (.val (vL l2) true f2) x5 st5) = .ok (decide (way = 1)) (lvS p way many false (.val (vL l2) true f2) x5 st5) := by
      simp [btst, bev, RB.bind, op1, finT, vaT, cmpT, eqT_int, blB, truB, truT, liftB]
    rw [b_ife t]
    by_cases h : way = 1
    · rw [if_pos (by simp [h])]
      obtain ⟨l3, f3, e6, hl3, hr3⟩ := v_4 (C := ⟨ns, none, callB ns 12 TT k⟩) (way := way) (many := many) (f1 := false) (f := f2) (x5 := x5) (st := st5) hp (by omega) hr2
      refine ⟨l3, f3, b_nx ?_, by omega, hr3⟩
      rw [b_asg (fun i g as _ z => by cases z) e6]
      rfl
    · rw [if_neg (by simp [h])]
      exact ⟨l2, f2, rfl, hl2, hr2⟩
  obtain ⟨l3, f3, s4, hl3, hr3⟩ := s4
  have s5 : ∃ l4 f4, bex ⟨ns, none, callB ns 12 TT k⟩ (.ife (.and (.cmp .eq (.var 2) (.cst (.int 2))) (.cmp (.ord .gt) (.var 1) (.cst (.int 1)))) (.cons (.asg (.nm 4) e_v5) .nil) .nil) (lvS p way many false (.val (vL l3) true f3) x5 st5) = .nx (lvS p way many false (.val (vL l4) true f4) x5 st5) ∧ l4.length ≤ 300 ∧ InR p l4 := by
    have t : ∃ b, btst ⟨ns, none, callB ns 12 TT k⟩ (.and (.cmp .eq (.var 2) (.cst (.int 2))) (.cmp (.ord .gt) (.var 1) (.cst (.int 1)))) (lvS p way many false (.val (vL l3) true f3) x5 st5) = .ok b (lvS p way many false (.val (vL l3) true f3) x5 st5) := by
      by_cases h : way = 2
      · exact ⟨decide (1 < p), by simp [btst, bev, RB.bind, op1, finT, vaT, cmpT, ordT, ordI, eqT_int, blB, truB, truT, liftB, h]⟩
      · exact ⟨false, by simp [btst, bev, RB.bind, op1, finT, vaT, cmpT, ordT, ordI, eqT_int, blB, truB, truT, liftB, h]⟩
    obtain ⟨b, t⟩ := t
    rw [b_ife t]
    cases b with
    | true =>
      rw [if_pos rfl]
      obtain ⟨l4, f4, e7, hl4, hr4⟩ := v_5 (C := ⟨ns, none, callB ns 12 TT k⟩) (way := way) (many := many) (f1 := false) (f := f3) (x5 := x5) (st := st5) hp (by omega) hr3
      refine ⟨l4, f4, b_nx ?_, by omega, hr4⟩
      rw [b_asg (fun i g as _ z => by cases z) e7]
      rfl
    | false =>
      rw [if_neg Bool.false_ne_true]
      exact ⟨l3, f3, rfl, hl3, hr3⟩
  obtain ⟨l4, f4, s5, hl4, hr4⟩ := s5
  refine ⟨l4, f4 || imm (vL l4), st5, fun f u => ?_, hl4, hr4, g5.up (by omega)⟩
  rw [call_go (by decide) rfl]
  refine run_rt rfl ?_
  show bexs ⟨ns, none, callB ns 12 TT k⟩ (.cons _ (.cons (.asg (.nm 4) e_v1) (.cons _ (.cons (.ife _ (.cons (.asg (.nm 4) e_v4) .nil) .nil) (.cons (.ife _ (.cons (.asg (.nm 4) e_v5) .nil) .nil) _))))) ⟨[.st, .val (.int p) false false, .no, .no, .no, .no, .no, .no], st⟩ = _
  rw [b_nx s1, b_nx s2, b_nx s3, b_nx s4, b_nx s5]
  rfl
end HA

namespace HA
open PySem PySem.Spec PyProof.Rows L2

/-! ### who has been there -/
def sumTo (f : Int → Int) : Nat → Int
  | 0 => 0
  | n + 1 => sumTo f n + f n
theorem sumTo_up {f : Int → Int} {v : Int} : ∀ {n : Nat}, 0 ≤ v → sumTo (fun x => if x = v then f x + 1 else f x) n = sumTo f n + if v < n then 1 else 0
  | 0, h => by
    have : ¬ (v < ((0 : Nat) : Int)) := by omega
    simp only [this, if_false]
    rfl
  | n + 1, h => by
    show sumTo (fun x => if x = v then f x + 1 else f x) n + (if (n : Int) = v then f n + 1 else f n) = sumTo f n + f n + _
    rw [sumTo_up h]
    by_cases h1 : v < n
    · have h2 : v < ((n + 1 : Nat) : Int) := by omega
      have h3 : ¬ ((n : Int) = v) := by omega
      rw [if_pos h1, if_pos h2, if_neg h3]
      omega
    · by_cases h3 : (n : Int) = v
      · have h2 : v < ((n + 1 : Nat) : Int) := by omega
        rw [if_neg h1, if_pos h2, if_pos h3]
        omega
      · have h2 : ¬ (v < ((n + 1 : Nat) : Int)) := by omega
        rw [if_neg h1, if_neg h2, if_neg h3]
        omega
theorem sumTo_le {f : Int → Int} {v : Nat} (h2 : ∀ x, f x ≤ 1) (h0 : f 0 = 0) (hv : f v = 0) (vp : 0 < v) : ∀ n : Nat, sumTo f n ≤ n - (if 0 < n then 1 else 0) - (if v < n then 1 else 0)
  | 0 => by simp [sumTo]
  | n + 1 => by
    have ih := sumTo_le h2 h0 hv vp n
    show sumTo f n + f n ≤ _
    have hn := h2 n
    by_cases e0 : n = 0
    · subst e0
      have : f ((0 : Nat) : Int) = 0 := h0
      rw [this]
      have e : ¬ (v < 0 + 1) := by omega
      rw [if_neg e]
      simp [sumTo]
    · rw [if_pos (show 0 < n + 1 by omega)]
      rw [if_pos (show 0 < n by omega)] at ih
      by_cases e1 : n = v
      · subst e1
        rw [hv]
        rw [if_neg (show ¬ (n < n) by omega)] at ih
        rw [if_pos (show n < n + 1 by omega)]
        omega
      · by_cases e2 : v < n
        · rw [if_pos e2] at ih
          rw [if_pos (show v < n + 1 by omega)]
          omega
        · rw [if_neg e2] at ih
          rw [if_neg (show ¬ (v < n + 1) by omega)]
          omega
theorem lm_inv {l : List Int} {p : Nat} (hr : InR p l) : ∀ i, i ≤ l.length → (lmAt 1 0 l i).count + (lmAt 1 0 l i).here = sumTo (lmAt 1 0 l i).f p ∧ (∀ x, (lmAt 1 0 l i).f x ≤ 1) ∧ (lmAt 1 0 l i).f 0 = 0 ∧ ∀ x, (lmAt 1 0 l i).f x ≠ 0 → x ∈ l.take i := by
  have z0 : ∀ n, sumTo (fun _ => 0) n = 0 := by
    intro n
    induction n with
    | zero => rfl
    | succ n ih => show sumTo (fun _ => 0) n + 0 = 0; rw [ih]; rfl
  intro i
  induction i with
  | zero =>
    intro _
    refine ⟨?_, fun x => by show (0 : Int) ≤ 1; decide, rfl, fun x h => absurd rfl h⟩
    show (0 : Int) + 0 = sumTo (fun _ => 0) p
    rw [z0]
    rfl
  | succ i ih =>
    intro hi
    obtain ⟨a, b, c, d⟩ := ih (by omega)
    have gi : l[i]? = some l[i] := List.getElem?_eq_getElem (by omega)
    have rv := hr l[i] (List.getElem_mem (by omega))
    rw [lmAt_succ gi, take_get gi]
    generalize l[i] = v at rv
    have d' : ∀ x, (lmAt 1 0 l i).f x ≠ 0 → x ∈ l.take i ++ [v] := fun x h => List.mem_append_left _ (d x h)
    unfold stp
    split
    · refine ⟨?_, b, c, d'⟩
      show (lmAt 1 0 l i).count + (lmAt 1 0 l i).here + 0 = _
      rw [Int.add_zero]
      exact a
    · rename_i v0
      split
      · rename_i hc
        refine ⟨?_, fun x => ?_, ?_, fun x h => ?_⟩
        · show (lmAt 1 0 l i).count + 1 = sumTo (fun x => if x = v then (lmAt 1 0 l i).f x + 1 else (lmAt 1 0 l i).f x) p
          rw [sumTo_up rv.1, if_pos rv.2]
          have := hc.1
          omega
        · show (if x = v then (lmAt 1 0 l i).f x + 1 else (lmAt 1 0 l i).f x) ≤ 1
          split
          · rename_i e
            rw [e]
            have := hc.2
            omega
          · exact b x
        · show (if (0 : Int) = v then _ else _) = (0 : Int)
          rw [if_neg (fun z => v0 z.symm)]
          exact c
        · have h : (if x = v then (lmAt 1 0 l i).f x + 1 else (lmAt 1 0 l i).f x) ≠ 0 := h
          split at h
          · rename_i e
            rw [e]
            exact List.mem_append_right _ List.mem_cons_self
          · exact d' x h
      · exact ⟨a, b, c, d'⟩
theorem all_there {l : List Int} {p i : Nat} (hr : InR p l) (hi : i < l.length) (hp : 0 < p) (hq : tlQ 1 0 (p - 1) l i = true) (v : Nat) (hv : v < p) : (v : Int) ∈ l.take (i + 1) := by
  unfold tlQ at hq
  rw [Bool.and_eq_true, decide_eq_true_eq, decide_eq_true_eq] at hq
  obtain ⟨q0, q1⟩ := hq
  obtain ⟨a, b, c, d⟩ := lm_inv hr (i + 1) (by omega)
  have hh := here01 (often := 1) (lit := 0) (l := l) (.inl rfl) (i + 1) (by omega)
  by_cases e : v = 0
  · subst e
    rw [take_get q0]
    exact List.mem_append_right _ List.mem_cons_self
  · by_cases m : (lmAt 1 0 l (i + 1)).f v = 0
    · have := sumTo_le b c m (by omega) p
      rw [if_pos hp, if_pos hv] at this
      omega
    · exact d _ m
/-! ### keys of a dict -/
theorem put_mem {κ : Type} [DecidableEq κ] {kvs : List (κ × Tr)} {k x : κ} {v : Tr} : x ∈ (putT' kvs k v).map (·.1) ↔ x = k ∨ x ∈ kvs.map (·.1) := by
  unfold putT'
  split
  · rename_i h
    rw [List.any_eq_true] at h
    obtain ⟨kv, hm, he⟩ := h
    have he : kv.1 = k := of_decide_eq_true he
    rw [List.map_map]
    have : ((fun kv : κ × Tr => kv.1) ∘ fun kv : κ × Tr => if kv.1 = k then (kv.1, v) else kv) = fun kv => kv.1 := by
      funext z
      show (if z.1 = k then (z.1, v) else z).1 = z.1
      split <;> rfl
    rw [this]
    constructor
    · exact .inr
    · rintro (rfl | h)
      · exact List.mem_map.mpr ⟨kv, hm, he⟩
      · exact h
  · rw [List.map_append, List.mem_append]
    simp
    exact Or.comm
theorem put_nodup {κ : Type} [DecidableEq κ] {kvs : List (κ × Tr)} {k : κ} {v : Tr} (h : (kvs.map (·.1)).Nodup) : ((putT' kvs k v).map (·.1)).Nodup := by
  unfold putT'
  split
  · rw [List.map_map]
    have : ((fun kv : κ × Tr => kv.1) ∘ fun kv : κ × Tr => if kv.1 = k then (kv.1, v) else kv) = fun kv => kv.1 := by
      funext z
      show (if z.1 = k then (z.1, v) else z).1 = z.1
      split <;> rfl
    rw [this]
    exact h
  · rename_i hn
    rw [List.map_append, List.nodup_append]
    refine ⟨h, by simp, fun a ha b hb => ?_⟩
    have hb : b = k := by simpa using hb
    subst hb
    rintro rfl
    obtain ⟨kv, hm, he⟩ := List.mem_map.mp ha
    exact hn (List.any_eq_true.mpr ⟨kv, hm, decide_eq_true he⟩)
theorem merge_keys : ∀ (l : List Int) (acc : List (Key × Tr)), (acc.map (·.1)).Nodup → (((l.map fun v => ((Sum.inl v : Key), Tr.int 0)).foldl (fun acc kv => putT' acc kv.1 kv.2) acc).map (·.1)).Nodup ∧ ∀ x, x ∈ ((l.map fun v => ((Sum.inl v : Key), Tr.int 0)).foldl (fun acc kv => putT' acc kv.1 kv.2) acc).map (·.1) ↔ x ∈ acc.map (·.1) ∨ ∃ v ∈ l, x = Sum.inl v
  | [], acc, h => ⟨h, fun x => by simp⟩
  | v :: l, acc, h => by
    obtain ⟨a, b⟩ := merge_keys l (putT' acc (Sum.inl v) (.int 0)) (put_nodup h)
    refine ⟨a, fun x => ?_⟩
    rw [List.map_cons, List.foldl_cons, b x, put_mem]
    constructor
    · rintro ((rfl | h) | ⟨w, hw, rfl⟩)
      · exact .inr ⟨v, List.mem_cons_self, rfl⟩
      · exact .inl h
      · exact .inr ⟨w, List.mem_cons_of_mem _ hw, rfl⟩
    · rintro (h | ⟨w, hw, rfl⟩)
      · exact .inl (.inr h)
      · rcases List.mem_cons.mp hw with rfl | hw
        · exact .inl (.inl rfl)
        · exact .inr ⟨w, hw, rfl⟩
theorem merge_len {l : List Int} {p : Nat} (hr : InR p l) (ha : ∀ v : Nat, v < p → (v : Int) ∈ l) : (mergeT (l.map fun v => ((Sum.inl v : Key), Tr.int 0))).length = p := by
  obtain ⟨a, b⟩ := merge_keys l [] List.nodup_nil
  have nd : ((List.range p).map fun (j : Nat) => (Sum.inl (j : Int) : Key)).Nodup := by
    refine List.pairwise_map.mpr (List.nodup_range.imp fun h e => h ?_)
    have := Sum.inl.inj e
    omega
  have perm : ((mergeT (l.map fun v => ((Sum.inl v : Key), Tr.int 0))).map (·.1)).Perm ((List.range p).map fun (j : Nat) => (Sum.inl (j : Int) : Key)) := by
    refine (List.perm_ext_iff_of_nodup a nd).mpr fun x => ?_
    rw [b x]
    constructor
    · rintro (h | ⟨v, hv, rfl⟩)
      · cases h
      · have := hr v hv
        exact List.mem_map.mpr ⟨v.toNat, List.mem_range.mpr (by omega), by rw [show (v.toNat : Int) = v by omega]⟩
    · intro h
      obtain ⟨j, hj, rfl⟩ := List.mem_map.mp h
      exact .inr ⟨j, ha j (List.mem_range.mp hj), rfl⟩
  have := perm.length_eq
  rw [List.length_map, List.length_map, List.length_range] at this
  exact this
end HA

namespace HA
open PySem PySem.Spec PyProof.Rows L2

/-! ### the least run -/
def wayL (n : Nat) : List Int := (List.range n).flatMap fun (j : Nat) => [(j : Int) + 1, 0]
theorem wayL_succ (n : Nat) : wayL (n + 1) = wayL n ++ [(n : Int) + 1, 0] := by
  unfold wayL
  rw [List.range_succ, List.flatMap_append]
  rfl
theorem wayL_len : ∀ n : Nat, (wayL n).length = 2 * n
  | 0 => rfl
  | n + 1 => by
    rw [wayL_succ, List.length_append, wayL_len n]
    show 2 * n + 2 = _
    omega
theorem wayL_in : ∀ (n : Nat), ∀ v ∈ wayL n, 0 ≤ v ∧ v ≤ n
  | 0, v, m => by cases m
  | n + 1, v, m => by
    rw [wayL_succ] at m
    rcases List.mem_append.mp m with m | m
    · have := wayL_in n v m
      omega
    · simp at m
      omega
def dueL (p : Int) : List Int := if p = 1 then [0] else wayL (p - 1).toNat
theorem lm_app {often lit : Int} {a b : List Int} {i : Nat} (h : i ≤ a.length) : lmAt often lit (a ++ b) i = lmAt often lit a i := by
  unfold lmAt
  rw [List.take_append_of_le_length h]
theorem lm_way : ∀ n : Nat, lmAt 1 0 (wayL n) (2 * n) = ⟨fun x => if 1 ≤ x ∧ x ≤ n then 1 else 0, 0, n⟩
  | 0 => by
    show (⟨fun _ => 0, 0, 0⟩ : Lm) = _
    congr 1
    funext x
    have : ¬ (1 ≤ x ∧ x ≤ ((0 : Nat) : Int)) := by omega
    rw [if_neg this]
  | n + 1 => by
    have ih := lm_way n
    have l := wayL_len n
    rw [wayL_succ]
    have g1 : (wayL n ++ [(n : Int) + 1, 0])[2 * n]? = some ((n : Int) + 1) := by
      rw [List.getElem?_append_right (by omega), l, Nat.sub_self]
      rfl
    have g2 : (wayL n ++ [(n : Int) + 1, 0])[2 * n + 1]? = some 0 := by
      rw [List.getElem?_append_right (by omega), l, show 2 * n + 1 - 2 * n = 1 by omega]
      rfl
    rw [show 2 * (n + 1) = 2 * n + 1 + 1 by omega, lmAt_succ g2, lmAt_succ g1, lm_app (by omega), ih]
    have e1 : ¬ ((n : Int) + 1 = 0) := by omega
    have e2 : ¬ (1 ≤ (n : Int) + 1 ∧ (n : Int) + 1 ≤ n) := by omega
    have t1 : stp 1 ⟨fun x => if 1 ≤ x ∧ x ≤ n then 1 else 0, 0, n⟩ ((n : Int) + 1) = ⟨fun x => if x = (n : Int) + 1 then (if 1 ≤ x ∧ x ≤ n then 1 else 0) + 1 else (if 1 ≤ x ∧ x ≤ n then 1 else 0), 1, n⟩ := by
      unfold stp
      rw [if_neg e1, if_pos ⟨rfl, by show (if 1 ≤ (n : Int) + 1 ∧ (n : Int) + 1 ≤ n then (1 : Int) else 0) < 1; rw [if_neg e2]; decide⟩]
    rw [t1]
    unfold stp
    rw [if_pos rfl]
    congr 1
    funext x
    show (if x = (n : Int) + 1 then (if 1 ≤ x ∧ x ≤ n then (1 : Int) else 0) + 1 else (if 1 ≤ x ∧ x ≤ n then 1 else 0)) = if 1 ≤ x ∧ x ≤ ((n + 1 : Nat) : Int) then 1 else 0
    by_cases h : x = (n : Int) + 1
    · rw [if_pos h, if_neg (by omega), if_pos (by omega)]
      rfl
    · rw [if_neg h]
      by_cases h2 : 1 ≤ x ∧ x ≤ n
      · rw [if_pos h2, if_pos (by omega)]
      · rw [if_neg h2, if_neg (by omega)]
theorem way_odd {n j : Nat} (h : j < n) : (wayL n)[2 * j + 1]? = some 0 ∧ (wayL n)[2 * j]? = some ((j : Int) + 1) ∧ (lmAt 1 0 (wayL n) (2 * j + 1 + 1)).count = (j : Int) + 1 := by
  have pre : ∃ b, wayL n = wayL (j + 1) ++ b := by
    obtain ⟨m, rfl⟩ : ∃ m, n = j + 1 + m := ⟨n - (j + 1), by omega⟩
    clear h
    induction m with
    | zero => exact ⟨[], by simp⟩
    | succ m ih =>
      obtain ⟨b, e⟩ := ih
      exact ⟨b ++ [((j + 1 + m : Nat) : Int) + 1, 0], by rw [show j + 1 + (m + 1) = (j + 1 + m) + 1 by omega, wayL_succ, e, List.append_assoc]⟩
  obtain ⟨b, e⟩ := pre
  have l := wayL_len (j + 1)
  have l0 := wayL_len j
  rw [e]
  refine ⟨?_, ?_, ?_⟩
  · rw [List.getElem?_append_left (by omega), wayL_succ, List.getElem?_append_right (by omega), l0, show 2 * j + 1 - 2 * j = 1 by omega]
    rfl
  · rw [List.getElem?_append_left (by omega), wayL_succ, List.getElem?_append_right (by omega), l0, Nat.sub_self]
    rfl
  · rw [lm_app (by omega), show 2 * j + 1 + 1 = 2 * (j + 1) by omega, lm_way]
    show ((j + 1 : Nat) : Int) = _
    omega
theorem way_first {n : Nat} (hn : 0 < n) : fstQ (tlQ 1 0 n (wayL n)) (wayL n).length = some (2 * n - 1) := by
  rw [wayL_len]
  obtain ⟨m, rfl⟩ : ∃ m, n = m + 1 := ⟨n - 1, by omega⟩
  refine fst_some (by omega) ?_ fun i hi => ?_
  · obtain ⟨a, _, c⟩ := way_odd (show m < m + 1 by omega)
    unfold tlQ
    rw [show 2 * (m + 1) - 1 = 2 * m + 1 by omega, a, c]
    simp
  · unfold tlQ
    rcases Nat.mod_two_eq_zero_or_one i with h | h
    · obtain ⟨j, rfl⟩ : ∃ j, i = 2 * j := ⟨i / 2, by omega⟩
      obtain ⟨_, b, _⟩ := way_odd (show j < m + 1 by omega)
      rw [b]
      have : ¬ ((j : Int) + 1 = 0) := by omega
      simp [this]
    · obtain ⟨j, rfl⟩ : ∃ j, i = 2 * j + 1 := ⟨i / 2, by omega⟩
      obtain ⟨_, _, c⟩ := way_odd (show j < m + 1 by omega)
      rw [c]
      have : ¬ (((m + 1 : Nat) : Int) ≤ (j : Int) + 1) := by omega
      rw [decide_eq_false this, Bool.and_false]
/-! ### the program's three -/
section
variable {ns : List Int} {st : Strm}
theorem k_lrun {k : Nat} {p : Int} {vis : Tr} {l : List Int} (hk : 6 ≤ k) (hp : 1 ≤ p) (hp2 : p < 1000000) (hv : vis = vL l ∨ vis = vT l) (hl : l.length < 16777216) (hr : ∀ v ∈ l, 0 ≤ v ∧ v < p) (f u f2 u2 : Bool) :
    callB ns 12 TT k 8 [.v ⟨.int p, f, u⟩, .v ⟨vis, f2, u2⟩] st = .ok ⟨.lst (runT 1 0 l l.length), true, true⟩ st := by
  obtain ⟨k, rfl⟩ : ∃ j, k = j + 1 := ⟨k - 1, by omega⟩
  have e := k_run (ns := ns) (st := st) (k := k) (lit := 0) (often := 1) (by omega) (by omega) hp2 hv hl hr
  rw [call_go (by decide) rfl]
  refine run_rt rfl ?_
  show bexs ⟨ns, none, callB ns 12 TT k⟩ b_lamp_run ⟨[.val (.int p) false false, .val vis false false], st⟩ = _
  simp [b_lamp_run, bexs, bex, bev, bevA, RB.bind, RB.st, RC.to, vaT, mkOld, imm, BX.seq, k_people (show 2 ≤ k by omega) hp, k_visits (show 4 ≤ k by omega) hv hl hr, e]
theorem k_ltells {k : Nat} {p : Int} {vis : Tr} {l : List Int} (hk : 6 ≤ k) (hp : 1 ≤ p) (hp2 : p < 1000000) (hv : vis = vL l ∨ vis = vT l) (hl : l.length < 16777216) (hr : ∀ v ∈ l, 0 ≤ v ∧ v < p) (f u f2 u2 : Bool) :
    callB ns 12 TT k 9 [.v ⟨.int p, f, u⟩, .v ⟨vis, f2, u2⟩] st = .ok ⟨onT (fstQ (tlQ 1 0 (p - 1) l) l.length), true, false⟩ st := by
  obtain ⟨k, rfl⟩ : ∃ j, k = j + 1 := ⟨k - 1, by omega⟩
  have e := k_run (ns := ns) (st := st) (k := k) (lit := 0) (often := 1) (by omega) (by omega) hp2 hv hl hr
  rw [call_go (by decide) rfl]
  refine run_rt rfl ?_
  show bexs ⟨ns, none, callB ns 12 TT k⟩ b_lamp_tells ⟨[.val (.int p) false false, .val vis false false], st⟩ = _
  simp [b_lamp_tells, bexs, bex, bev, bevA, RB.bind, RB.st, RC.to, op1, finT, vaT, mkOld, mkNew, newB, binT, subT, imm, immE, mutT, BX.seq, k_people (show 2 ≤ k by omega) hp, k_visits (show 4 ≤ k by omega) hv hl hr, e, k_telling (show 1 ≤ k by omega) hv hl]
theorem rng2 {a b : Int} (ha : -1000000 < a ∧ a < 1000000) (hb : -1000000 < b ∧ b < 1000000) : rngT [.int a, .int b] = some (a, b) := by
  unfold rngT
  simp only []
  rw [if_pos ⟨nin_iff.mpr ⟨by omega, by omega⟩, nin_iff.mpr ⟨by omega, by omega⟩⟩]
theorem ext_ok {a b : List Int} (h : a.length + b.length < 16777216) : mutR .extend (.lst (a.map Tr.int)) [.lst (b.map Tr.int)] = some (.lst ((a ++ b).map Tr.int), .non) := by
  simp only [mutR]
  rw [if_pos (by show (a.map Tr.int).length + (b.map Tr.int).length ≤ 16777216; rw [List.length_map, List.length_map]; omega), List.map_append]
abbrev lr2_body : Ss := (.cons (.exp (.mth .extend (.var 1) (.cons (.lst (.cons (.var 2) (.cons (.cst (.int 0)) .nil))) .nil))) .nil)
theorem k_least {k : Nat} {p : Int} (hk : 3 ≤ k) (hp : 1 ≤ p) (hp2 : p < 1000) : ∃ u', ∀ f u, callB ns 12 TT k 10 [.v ⟨.int p, f, u⟩] st = .ok ⟨vL (dueL p), true, u'⟩ st := by
  obtain ⟨k, rfl⟩ : ∃ j, k = j + 1 := ⟨k - 1, by omega⟩
  have s1 : bex ⟨ns, none, callB ns 12 TT k⟩ (.exp (.call 4 (.cons (.var 0) .nil))) ⟨[.val (.int p) false false, .no, .no], st⟩ = .nx ⟨[.val (.int p) false false, .no, .no], st⟩ := by
    simp [bex, bev, bevA, RB.bind, RB.st, RC.to, mkOld, k_people (show 2 ≤ k by omega) hp]
  have s2 : bex ⟨ns, none, callB ns 12 TT k⟩ (.asg (.nm 1) (.lst .nil)) ⟨[.val (.int p) false false, .no, .no], st⟩ = .nx ⟨[.val (.int p) false false, .val (.lst []) true true, .no], st⟩ := rfl
  have it : bevIt ⟨ns, none, callB ns 12 TT k⟩ (fun i => nmSs i lr2_body) (.rng (.cons (.cst (.int 1)) (.cons (.var 0) .nil))) ⟨[.val (.int p) false false, .val (.lst []) true true, .no], st⟩ = .ok ((rngL 1 p).map fun k => .one ⟨.int k, true, false⟩) ⟨[.val (.int p) false false, .val (.lst []) true true, .no], st⟩ := by
    simp [bevIt, bev, bevT, RB.bind, finT, finsT, vaT, rng2 (show -1000000 < (1 : Int) ∧ (1 : Int) < 1000000 by decide) (show -1000000 < p ∧ p < 1000000 by omega)]
  have ylen : ((rngL 1 p).map fun k => Yb.one ⟨.int k, true, false⟩).length = (p - 1).toNat := by
    rw [List.length_map, rngL_len]
  obtain ⟨bs', s3, x2, hb⟩ := for_inv (tg := .nm 2) (body := bexs ⟨ns, none, callB ns 12 TT k⟩ lr2_body) (fun i bs => ∃ x2, bs = ⟨[.val (.int p) false false, .val (vL (wayL i)) true true, x2], st⟩)
    ((rngL 1 p).map fun k => .one ⟨.int k, true, false⟩) (by
      intro i y bs hy ⟨x2, hb⟩
      have hi := (List.getElem?_eq_some_iff.mp hy).1
      rw [ylen] at hi
      rw [List.getElem?_map, rngL_get hi] at hy
      cases hy
      subst hb
      have e := ext_ok (a := wayL i) (b := [1 + (i : Int), 0]) (by rw [wayL_len]; show 2 * i + 2 < 16777216; omega)
      simp only [List.map] at e
      refine ⟨_, ⟨[.val (.int p) false false, .val (vL (wayL (i + 1))) true true, .val (.int (1 + (i : Int))) false true], st⟩, rfl, .inl ?_, _, rfl⟩
      rw [wayL_succ, show (i : Int) + 1 = 1 + i by omega]
      simp [bexs, bex, bev, bevs, RB.bind, RB.st, BX.seq, isMutM, kdT, vaT, mkOld, mkNew, imm, immE, immL, lvsT, lvsF, e])
    (bs := ⟨[.val (.int p) false false, .val (.lst []) true true, .no], st⟩) ⟨.no, rfl⟩
  rw [ylen] at hb
  subst hb
  have s4 : ∃ u', bex ⟨ns, none, callB ns 12 TT k⟩ (.ret (.ife (.cmp (.ord .gt) (.var 0) (.cst (.int 1))) (.var 1) (.lst (.cons (.cst (.int 0)) .nil)))) ⟨[.val (.int p) false false, .val (vL (wayL (p - 1).toNat)) true true, x2], st⟩ = .rt ⟨vL (dueL p), true, u'⟩ st := by
    unfold dueL
    by_cases h : p = 1
    · subst h
      exact ⟨true, by simp [bex, bev, bevs, RB.bind, RB.st, op1, finT, vaT, cmpT, ordT, ordI, blB, truB, truT, liftB, mkNew, lvsT, lvsF, mutT]⟩
    · have h2 : 1 < p := by omega
      exact ⟨false, by simp [bex, bev, bevs, RB.bind, RB.st, op1, finT, vaT, cmpT, ordT, ordI, blB, truB, truT, liftB, mkOld, h, h2]⟩
  obtain ⟨u', s4⟩ := s4
  refine ⟨u', fun f u => ?_⟩
  rw [call_go (by decide) rfl]
  refine run_rt rfl ?_
  show bexs ⟨ns, none, callB ns 12 TT k⟩ b_least_run ⟨[.val (.int p) false false, .no, .no], st⟩ = _
  unfold b_least_run
  rw [b_nx s1, b_nx s2, b_nx ((b_for it).trans s3)]
  exact b_rt s4
theorem k_lleast {k : Nat} {p : Int} (hk : 6 ≤ k) (hp : p = 1 ∨ p = 2 ∨ p = 3) : ∃ f' u', ∀ f u, callB ns 12 TT k 21 [.v ⟨.int p, f, u⟩] st = .ok ⟨vL (dueL p), f', u'⟩ st := by
  obtain ⟨k, rfl⟩ : ∃ j, k = j + 6 := ⟨k - 6, by omega⟩
  rcases hp with rfl | rfl | rfl
  · exact ⟨true, false, fun f u => by kernel_rfl⟩
  · exact ⟨true, false, fun f u => by kernel_rfl⟩
  · exact ⟨true, false, fun f u => by kernel_rfl⟩
end
end HA

namespace HA
open PySem PySem.Spec PyProof.Rows L2
theorem immL_ints : ∀ l : List Int, immL (l.map Tr.int) = true
  | [] => rfl
  | i :: l => by
    show (imm (.int i) && immL (l.map Tr.int)) = true
    rw [immL_ints l]; rfl
theorem b_stm {C : Cb} {bs bs1 : BS} {i g : Nat} {as : Es} {xs : List (Nat ⊕ Lv)} {t : Tr} {f : Bool} {s : Strm} (hs : C.sg = some g) (h : bevT C as bs = .ok xs bs1) (hf : finsT xs bs1 = some ([t], f)) (hst : streamOf C.ns t = some s) : bex C (.asg (.nm i) (.call g as)) bs = .nx ⟨(noSt bs1.sl).set i .st, s⟩ := by
  simp only [bex]
  rw [if_pos hs, h]
  simp only [RB.st, hf, hst]
theorem cut_all {α : Type} (xs : List α) : cutL xs none none = xs := by
  unfold cutL
  simp [HT.sIx]
theorem okTs_of : ∀ {ts : List Tr}, (∀ t ∈ ts, okT t = true ∧ depT t ≤ 1 ∧ mxT t ≤ 2 ∧ wT t = 0 ∧ eqOk t = true) → okTs ts = true ∧ depTs ts ≤ 1 ∧ mxTs ts ≤ 2 ∧ wTs ts = 0 ∧ eqOks ts = true
  | [], _ => ⟨rfl, by decide, by decide, rfl, rfl⟩
  | t :: ts, h => by
    obtain ⟨a, b, c, d, e⟩ := okTs_of fun t m => h t (List.mem_cons_of_mem _ m)
    obtain ⟨a1, b1, c1, d1, e1⟩ := h t List.mem_cons_self
    refine ⟨?_, ?_, ?_, ?_, ?_⟩
    · show (okT t && okTs ts) = true
      rw [a, a1]; rfl
    · show max (depT t) (depTs ts) ≤ 1
      omega
    · show max (mxT t) (mxTs ts) ≤ 2
      omega
    · show wT t + wTs ts = 0
      omega
    · show (eqOk t && eqOks ts) = true
      rw [e, e1]; rfl
theorem run_tr {often lit : Int} {l : List Int} {n : Nat} : okTs (runT often lit l n) = true ∧ depTs (runT often lit l n) ≤ 1 ∧ mxTs (runT often lit l n) ≤ 2 ∧ wTs (runT often lit l n) = 0 ∧ eqOks (runT often lit l n) = true := by
  refine okTs_of fun t m => ?_
  unfold runT at m
  obtain ⟨j, _, rfl⟩ := List.mem_map.mp m
  exact ⟨rfl, Nat.le_refl _, Nat.le_refl _, rfl, rfl⟩
theorem cut_take {α : Type} {xs : List α} {i : Nat} (h : i < xs.length) : cutL xs none (some ((i : Int) + 1)) = xs.take (i + 1) := by
  unfold cutL
  have e : HT.sIx xs.length xs.length (some ((i : Int) + 1)) = i + 1 := by
    unfold HT.sIx
    simp
    rw [if_neg (by omega)]
    omega
  rw [e]
  simp [HT.sIx]
theorem pairs_of : ∀ l : List Int, pairsT (l.map fun v => Tr.tup [Tr.int v, Tr.int 0]) = some (l.map fun v => ((Sum.inl v : Key), Tr.int 0))
  | [] => rfl
  | v :: l => by
    show (match pairsT (l.map fun v => Tr.tup [Tr.int v, Tr.int 0]) with
      | some kvs => some ((Sum.inl v, Tr.int 0) :: kvs)
      | none => none) = _
    rw [pairs_of l]
    rfl
theorem bL_nx {C : Cb} {x : LS} {r : LSs} {bs bs1 : BS} (e : bexL C x bs = .nx bs1) : bexLs C (.cons x r) bs = bexLs C r bs1 := by
  show (bexL C x bs).seq (bexLs C r) = _
  rw [e]
  rfl
theorem bL_s {C : Cb} {x : Sm} {r : LSs} {bs bs1 : BS} (e : bex C x bs = .nx bs1) : bexLs C (.cons (.s x) r) bs = bexLs C r bs1 := bL_nx e
theorem bL_blk {C : Cb} {b : Ss} {i : Nat} {r : LSs} {bs bs1 : BS} (e : blkB C b i bs = .nx bs1) : bexLs C (.cons (.blk b i) r) bs = bexLs C r bs1 := bL_nx e
theorem bL_for {C : Cb} {it : It} {tg : Tg} {b r : LSs} {bs bs1 bs2 : BS} {ys : List Yb} (h : bevIt C (fun i => nmLs i b) it bs = .ok ys bs1) (h2 : forGoB tg (bexLs C b) ys bs1 = .nx bs2) : bexLs C (.cons (.for_ it tg b) r) bs = bexLs C r bs2 := by
  refine bL_nx ?_
  unfold bexL
  rw [h]
  exact h2
section
variable {ns : List Int} {k : Nat} {st : Strm}
theorem k_same {t : Tr} (hk : 12 ≤ k) (h : eqOk t = true) (hd : depT t ≤ 10) (hm : mxT t ≤ BIG) (f1 u1 f2 u2 : Bool) : callB ns 12 TT k 15 [.v ⟨t, f1, u1⟩, .v ⟨t, f2, u2⟩] st = .ok ⟨.bl true, true, false⟩ st :=
  same_ok (by decide) rfl 10 k (by omega) t h hd hm f1 u1 f2 u2 st
end
end HA

namespace HA
open PySem PySem.Spec PyProof.Rows L2

/-! ### the law, with its stretches -/
def e_9 : E := .comp (.val (.slc (.var 4) .nil (.cons (.bin .add (.var 9) (.cst (.int 1))) .nil))) [12] (.nm 12) .nil (.tup (.cons (.var 12) (.cons (.cst (.int 0)) .nil)))
def lw_1 : Sm := .asg (.nm 2) (.call 11 (.cons (.bin .add (.bi .list (.cons (.var 0) .nil)) (.lst (.cons (.var 1) .nil))) .nil))
def lw_2 : Sm := .asg (.nm 3) (.bin .add (.cst (.int 1)) (.call 12 (.cons (.var 2) (.cons (.ife (.cmp (.ord .lt) (.var 1) (.cst (.int 2))) (.cst (.int 30)) (.cst (.int 5))) .nil))))
def lw_3 : Sm := .asg (.nm 4) (.call 20 (.cons (.var 2) (.cons (.var 3) .nil)))
def lw_4 : Sm := .par [5, 6] (.cons (.call 16 (.cons (.var 2) (.cons (.var 4) .nil))) (.cons (.call 18 (.cons (.var 3) (.cons (.cst (.int 0)) (.cons (.cst (.int 1)) (.cons (.var 4) .nil))))) .nil))
def lw_6 : Sm := .asg (.nm 9) (.call 19 (.cons (.var 6) (.cons (.var 4) (.cons (.bin .sub (.var 3) (.cst (.int 1))) .nil))))
def lw_7 : Sm := .asg (.nm 10) (.lst (.cons (.call 8 (.cons (.var 3) (.cons (.var 5) .nil))) (.cons (.call 9 (.cons (.var 3) (.cons (.var 5) .nil))) (.cons (.callk 9 .nil (.cons (.bi .list (.cons (.var 4) .nil)) (.cons (.var 3) .nil)) [1, 0]) .nil))))
def lw_8 : Sm := .ife (.or (.not (.call 15 (.cons (.var 10) (.cons (.lst (.cons (.var 6) (.cons (.var 9) (.cons (.var 9) .nil)))) .nil)))) (.cmp .ne (.bi .repr (.cons (.var 5) .nil)) (.var 7))) (.cons (.ret (.cst (.bl false))) .nil) .nil
def lw_9 : Sm := .ife (.and (.isN true (.var 9)) (.cmp .ne (.bi .len (.cons (.bi .dict (.cons e_9 .nil)) .nil)) (.var 3))) (.cons (.ret (.cst (.bl false))) .nil) .nil
def lw_10 : Sm := .asg (.nm 11) (.lst (.cons (.cst (.int 0)) .nil))
def lw_11 : Sm := .ife (.cmp (.ord .gt) (.var 3) (.cst (.int 1))) (.cons (.asg (.nm 11) (.lst .nil)) (.cons (.for_ (.rng (.cons (.cst (.int 1)) (.cons (.var 3) .nil))) (.nm 12) (.cons (.exp (.mth .extend (.var 11) (.cons (.lst (.cons (.var 12) (.cons (.cst (.int 0)) .nil))) .nil))) .nil)) .nil)) .nil
def lw_13 : Sm := .ife (.not (.call 15 (.cons (.call 10 (.cons (.var 3) .nil)) (.cons (.var 11) .nil)))) (.cons (.ret (.cst (.bl false))) .nil) .nil
def lw_5 : Ss := (.cons (.par [7, 8] (.cons (.bi .repr (.cons (.var 5) .nil)) (.cons (.lst (.cons (.call 8 (.cons (.var 3) (.cons (.var 5) .nil))) (.cons (.callk 8 .nil (.cons (.bi .list (.cons (.var 4) .nil)) (.cons (.var 3) .nil)) [1, 0]) .nil))) .nil))) (.cons (.ife (.not (.call 15 (.cons (.var 8) (.cons (.lst (.cons (.var 6) (.cons (.var 6) .nil))) .nil)))) (.cons (.ret (.cst (.bl false))) .nil) .nil) .nil))
def lw_12 : Ss := (.cons (.asg (.nm 8) (.lst (.cons (.call 10 (.cons (.var 3) .nil)) (.cons (.callk 10 .nil (.cons (.var 3) .nil) [0]) .nil)))) (.cons (.ife (.or (.not (.call 15 (.cons (.var 8) (.cons (.lst (.cons (.var 11) (.cons (.var 11) .nil))) .nil)))) (.not (.call 15 (.cons (.call 9 (.cons (.var 3) (.cons (.bi .list (.cons (.var 11) .nil)) .nil))) (.cons (.bin .sub (.bi .len (.cons (.var 11) .nil)) (.cst (.int 1))) .nil))))) (.cons (.ret (.cst (.bl false))) .nil) .nil) (.cons (.ife (.and (.cmp (.ord .lt) (.var 3) (.cst (.int 4))) (.cmp .ne (.var 11) (.call 21 (.cons (.var 3) .nil)))) (.cons (.ret (.cst (.bl false))) .nil) .nil) .nil)))
def lw_turn : LSs := .cons (.s lw_1) (.cons (.s lw_2) (.cons (.s lw_3) (.cons (.s lw_4) (.cons (.blk lw_5 8) (.cons (.s lw_6) (.cons (.s lw_7) (.cons (.s lw_8) (.cons (.s lw_9) (.cons (.s lw_10) (.cons (.s lw_11) (.cons (.blk lw_12 8) (.cons (.s lw_13) .nil))))))))))))
def lw_law : LSs := .cons (.for_ (.rng (.cons (.cst (.int 6)) .nil)) (.nm 1) lw_turn) (.cons (.s (.ret (.cst (.bl true)))) .nil)
theorem lw_era : erasL 17 lw_law = b_law := rfl
abbrev CL (ns : List Int) (k : Nat) : Cb := ⟨ns, some 11, callB ns 12 TT k⟩
abbrev dst (s : Sb) : Sb := match s with
  | .st => .no
  | s => s
abbrev RT (l : List Int) : Tr := .lst (runT 1 0 l l.length)
section
variable {ns : List Int} {k : Nat} {t p d : Int} {l : List Int} {fr fr2 g u : Bool} {r at_ R D : Tr} {x2 x3 x4 x5 x6 x7 x8 x9 x10 x11 x12 : Sb} {st st1 st2 : Strm} {sh : Str}
theorem l_1 (hn : ns.length ≤ 63) : bex (CL ns k) lw_1 ⟨[.val .scr false false, .val (.int t) false true, x2, x3, x4, x5, x6, x7, x8, x9, x10, x11, x12], st⟩ = .nx ⟨[.val .scr false false, .val (.int t) false true, .st, dst x3, dst x4, dst x5, dst x6, dst x7, dst x8, dst x9, dst x10, dst x11, dst x12], ⟨ns ++ [t], 0, 0, 19⟩⟩ := by
  have a : addT (.lst (ns.map Tr.int)) (.lst [.int t]) = some (.lst ((ns ++ [t]).map Tr.int)) := by
    unfold addT
    simp only []
    rw [if_pos (by rw [List.length_map]; show ns.length + 1 ≤ 16777216; omega)]
    simp
  have i := intsT_ints (ns ++ [t])
  unfold lw_1
  rw [b_stm (C := CL ns k) (xs := [.inr ⟨.lst ((ns ++ [t]).map Tr.int), true, true⟩]) (bs1 := ⟨[.val .scr false false, .val (.int t) false true, x2, x3, x4, x5, x6, x7, x8, x9, x10, x11, x12], st⟩) (t := .lst ((ns ++ [t]).map Tr.int)) (f := true) (s := ⟨ns ++ [t], 0, 0, 19⟩) rfl ?_ rfl ?_]
  · rfl
  · simp only [List.map_append] at a ⊢
    simp [bevT, bev, bevs, RB.bind, finT, finsT, op1, biT, listT, newB, mkNew, mkOld, mutT, immE, immL, imm, lvsT, lvsF, binT]
    simp at a
    simp [a, immL_ints]
  · unfold streamOf
    simp only [i]
theorem l_2 {m : Int} (hm : m = if t < 2 then 30 else 5) (e1 : callB ns 12 TT k 12 [.s, .v ⟨.int m, true, false⟩] st = .ok ⟨.int d, true, false⟩ st1) :
    bex (CL ns k) lw_2 ⟨[.val .scr false false, .val (.int t) false true, .st, x3, x4, x5, x6, x7, x8, x9, x10, x11, x12], st⟩ = .nx ⟨[.val .scr false false, .val (.int t) false true, .st, .val (.int (1 + d)) false true, x4, x5, x6, x7, x8, x9, x10, x11, x12], st1⟩ := by
  unfold lw_2
  rw [b_asg (v := ⟨.int (1 + d), true, false⟩) (bs1 := ⟨[.val .scr false false, .val (.int t) false true, .st, x3, x4, x5, x6, x7, x8, x9, x10, x11, x12], st1⟩) (fun i g as _ z => by cases z) ?_]
  · rfl
  · by_cases h : t < 2
    · rw [if_pos h] at hm
      subst hm
      simp [bev, bevA, RB.bind, RC.to, op1, finT, vaT, cmpT, ordT, ordI, blB, truB, truT, liftB, h, e1, binT, addT, newB, mkNew, immE, mutT]
    · rw [if_neg h] at hm
      subst hm
      simp [bev, bevA, RB.bind, RC.to, op1, finT, vaT, cmpT, ordT, ordI, blB, truB, truT, liftB, h, e1, binT, addT, newB, mkNew, immE, mutT]
theorem l_3 (e : ∀ f u, callB ns 12 TT k 20 [.s, .v ⟨.int p, f, u⟩] st = .ok ⟨vL l, fr, true⟩ st1) :
    bex (CL ns k) lw_3 ⟨[.val .scr false false, .val (.int t) false true, .st, .val (.int p) false true, x4, x5, x6, x7, x8, x9, x10, x11, x12], st⟩ = .nx ⟨[.val .scr false false, .val (.int t) false true, .st, .val (.int p) false true, .val (vL l) true fr, x5, x6, x7, x8, x9, x10, x11, x12], st1⟩ := by
  unfold lw_3
  rw [b_asg (v := ⟨vL l, fr, true⟩) (bs1 := ⟨[.val .scr false false, .val (.int t) false true, .st, .val (.int p) false true, x4, x5, x6, x7, x8, x9, x10, x11, x12], st1⟩) (fun i g as _ z => by cases z; show (some 11 : Option Nat) ≠ some 20; decide) (by simp [bev, bevA, RB.bind, RC.to, mkOld, e])]
  rfl
theorem l_4 (e : callB ns 12 TT k 16 [.s, .v ⟨vL l, fr, false⟩] st = .ok ⟨r, fr2, u⟩ st1) (e2 : ∀ f1 u1 f2 u2 f3 u3 f4 u4, callB ns 12 TT k 18 [.v ⟨.int p, f1, u1⟩, .v ⟨.int 0, f2, u2⟩, .v ⟨.int 1, f3, u3⟩, .v ⟨vL l, f4, u4⟩] st1 = .ok ⟨R, g, true⟩ st1) :
    bex (CL ns k) lw_4 ⟨[.val .scr false false, .val (.int t) false true, .st, .val (.int p) false true, .val (vL l) true fr, x5, x6, x7, x8, x9, x10, x11, x12], st⟩ = .nx ⟨[.val .scr false false, .val (.int t) false true, .st, .val (.int p) false true, .val (vL l) false fr, .val r u fr2, .val R true g, x7, x8, x9, x10, x11, x12], st1⟩ := by
  simp only [vL] at e e2 ⊢
  simp [lw_4, bex, bevs, bev, bevA, RB.bind, RB.st, RC.to, vaT, mkOld, imm, e, e2, nxB, setAllB]
theorem l_5 (T1 : ∀ f1 u1 f2 u2, callB ns 12 TT k 8 [.v ⟨.int p, f1, u1⟩, .v ⟨r, f2, u2⟩] st = .ok ⟨R, true, true⟩ st) (T2 : ∀ f1 u1 f2 u2, callB ns 12 TT k 8 [.v ⟨.int p, f1, u1⟩, .v ⟨vL l, f2, u2⟩] st = .ok ⟨R, true, true⟩ st) (S : ∀ f1 u1 f2 u2, callB ns 12 TT k 15 [.v ⟨.lst [R, R], f1, u1⟩, .v ⟨.lst [R, R], f2, u2⟩] st = .ok ⟨.bl true, true, false⟩ st) (hs : reprT [r] = some (.str sh)) (sp : spB ⟨.lst [R, R], true, false⟩ = true) :
    blkB (CL ns k) lw_5 8 ⟨[.val .scr false false, .val (.int t) false true, .st, .val (.int p) false true, .val (vL l) false fr, .val r u fr2, .val R true g, x7, x8, x9, x10, x11, x12], st⟩ =
      .nx ⟨[.val .scr false false, .val (.int t) false true, .st, .val (.int p) false true, .val (vL l) false fr, .val r u fr2, .val R true g, .val (.str sh) false true, .no, x9, x10, x11, x12], st⟩ := by
  simp only [vL] at T2
  have e1 : bexs (noSg (CL ns k)) lw_5 ⟨[.val .scr false false, .val (.int t) false true, .st, .val (.int p) false true, .val (vL l) false fr, .val r u fr2, .val R true g, x7, x8, x9, x10, x11, x12].map ageS, st⟩ =
      .nx ⟨[.val .scr false true, .val (.int t) false true, .st, .val (.int p) false true, .val (vL l) false false, .val r false (imm r), .val R false (imm R), .val (.str sh) false true, .val (.lst [R, R]) false true, ageS x9, ageS x10, ageS x11, ageS x12], st⟩ := by
    simp only [vL]
    simp [lw_5, ageS, bexs, bex, btst, bevs, bev, bevA, bevT, RB.bind, RB.st, RC.to, op1, finT, finsT, biT, listT, hs, newB, mkNew, mkOld, mutT, immE, imm, permA, mapO, T1, T2, lvsT, lvsF, nxB, setAllB, BX.seq, S, truB, truT, liftB]
  unfold blkB
  rw [e1]
  simp only []
  have e2 : bev (noSg (CL ns k)) (.var 8) ⟨[.val .scr false true, .val (.int t) false true, .st, .val (.int p) false true, .val (vL l) false false, .val r false (imm r), .val R false (imm R), .val (.str sh) false true, .val (.lst [R, R]) false true, ageS x9, ageS x10, ageS x11, ageS x12], st⟩ = .ok ⟨.lst [R, R], true, false⟩ ⟨[.val .scr false true, .val (.int t) false true, .st, .val (.int p) false true, .val (vL l) false false, .val r false (imm r), .val R false (imm R), .val (.str sh) false true, .val (.lst [R, R]) false true, ageS x9, ageS x10, ageS x11, ageS x12], st⟩ := by
    simp [bev, mkOld]
  rw [e2]
  simp only []
  rw [if_pos ⟨sp, rfl⟩]
  rfl
theorem l_6 (e : ∀ f1 u1 f2 u2 f3 u3, callB ns 12 TT k 19 [.v ⟨R, f1, u1⟩, .v ⟨vL l, f2, u2⟩, .v ⟨.int (p - 1), f3, u3⟩] st = .ok ⟨at_, true, false⟩ st) :
    bex (CL ns k) lw_6 ⟨[.val .scr false false, .val (.int t) false true, .st, .val (.int p) false true, .val (vL l) false fr, .val r u fr2, .val R true g, .val (.str sh) false true, .no, x9, x10, x11, x12], st⟩ =
      .nx ⟨[.val .scr false false, .val (.int t) false true, .st, .val (.int p) false true, .val (vL l) false fr, .val r u fr2, .val R false g, .val (.str sh) false true, .no, .val at_ false true, x10, x11, x12], st⟩ := by
  unfold lw_6
  rw [b_asg (v := ⟨at_, true, false⟩) (bs1 := ⟨[.val .scr false false, .val (.int t) false true, .st, .val (.int p) false true, .val (vL l) false fr, .val r u fr2, .val R false g, .val (.str sh) false true, .no, x9, x10, x11, x12], st⟩) (fun i g as _ z => by cases z; show (some 11 : Option Nat) ≠ some 19; decide) (by simp [bev, bevA, RB.bind, RC.to, vaT, op1, finT, binT, subT, newB, mkNew, mkOld, e])]
  rfl
theorem l_7 (T1 : ∀ f1 u1 f2 u2, callB ns 12 TT k 8 [.v ⟨.int p, f1, u1⟩, .v ⟨r, f2, u2⟩] st = .ok ⟨R, true, true⟩ st) (e : ∀ f1 u1 f2 u2, callB ns 12 TT k 9 [.v ⟨.int p, f1, u1⟩, .v ⟨r, f2, u2⟩] st = .ok ⟨at_, true, false⟩ st) (e2 : ∀ f1 u1 f2 u2, callB ns 12 TT k 9 [.v ⟨.int p, f1, u1⟩, .v ⟨vL l, f2, u2⟩] st = .ok ⟨at_, true, false⟩ st) :
    bex (CL ns k) lw_7 ⟨[.val .scr false false, .val (.int t) false true, .st, .val (.int p) false true, .val (vL l) false fr, .val r u fr2, .val R false g, .val (.str sh) false true, .no, .val at_ false true, x10, x11, x12], st⟩ =
      .nx ⟨[.val .scr false false, .val (.int t) false true, .st, .val (.int p) false true, .val (vL l) false fr, .val r false fr2, .val R false g, .val (.str sh) false true, .no, .val at_ false true, .val (.lst [R, at_, at_]) true true, x11, x12], st⟩ := by
  unfold lw_7
  rw [b_asg (v := ⟨.lst [R, at_, at_], true, true⟩) (bs1 := ⟨[.val .scr false false, .val (.int t) false true, .st, .val (.int p) false true, .val (vL l) false fr, .val r false fr2, .val R false g, .val (.str sh) false true, .no, .val at_ false true, x10, x11, x12], st⟩) (fun i g as _ z => by cases z) (by simp [bev, bevs, bevA, bevT, RB.bind, RC.to, vaT, finT, finsT, biT, listT, newB, mkNew, mkOld, mutT, permA, mapO, lvsT, lvsF, T1, e, e2])]
  rfl
theorem l_8 (S : ∀ f1 u1 f2 u2, callB ns 12 TT k 15 [.v ⟨.lst [R, at_, at_], f1, u1⟩, .v ⟨.lst [R, at_, at_], f2, u2⟩] st = .ok ⟨.bl true, true, false⟩ st) (hs : reprT [r] = some (.str sh)) (hk : PyData.strOk sh = true) :
    bex (CL ns k) lw_8 ⟨[.val .scr false false, .val (.int t) false true, .st, .val (.int p) false true, .val (vL l) false fr, .val r false fr2, .val R false g, .val (.str sh) false true, .no, .val at_ false true, .val (.lst [R, at_, at_]) true true, x11, x12], st⟩ =
      .nx ⟨[.val .scr false false, .val (.int t) false true, .st, .val (.int p) false true, .val (vL l) false fr, .val r false fr2, .val R false g, .val (.str sh) false true, .no, .val at_ false true, .val (.lst [R, at_, at_]) false true, x11, x12], st⟩ := by
  have q := eqT_str hk true
  simp [lw_8, bex, bexs, btst, bev, bevs, bevA, bevT, RB.bind, RB.st, RC.to, op1, finT, finsT, biT, hs, newB, mkNew, mkOld, mutT, lvsT, lvsF, S, truB, truT, liftB, cmpT, q, blB]
end
end HA

namespace HA
open PySem PySem.Spec PyProof.Rows L2
abbrev Xn (x : Sb) : Prop := x = .no ∨ ∃ v, x = .val (.int v) false true
section
variable {ns : List Int} {k : Nat} {t p d : Int} {l : List Int} {fr fr2 g u : Bool} {r at_ R D : Tr} {x2 x3 x4 x5 x6 x7 x8 x9 x10 x11 x12 : Sb} {st st1 st2 : Strm} {sh : Str}
theorem c_9 {C : Cb} {i : Nat} {s1 s2 s3 s4 s6 s7 s8 s9 s10 s11 : Sb} (hx : Xn x12) (hi : i < l.length) (hl : l.length < 10000) : ∃ f, bev C e_9 ⟨[s1, s2, s3, s4, .val (vL l) false fr, s6, s7, s8, s9, .val (.int (i : Int)) false true, s10, s11, x12], st⟩ = .ok ⟨.lst ((l.take (i + 1)).map fun v => .tup [.int v, .int 0]), f, true⟩ ⟨[s1, s2, s3, s4, .val (vL l) false fr, s6, s7, s8, s9, .val (.int (i : Int)) false true, s10, s11, x12], st⟩ := by
  have it : ∃ a, bevIt C (fun i => nmEs i .nil && nmE i (.tup (.cons (.var 12) (.cons (.cst (.int 0)) .nil)))) (.val (.slc (.var 4) .nil (.cons (.bin .add (.var 9) (.cst (.int 1))) .nil))) ⟨[s1, s2, s3, s4, .val (vL l) false fr, s6, s7, s8, s9, .val (.int (i : Int)) false true, s10, s11, x12], st⟩ = .ok ((((l.take (i + 1)).map Tr.int).map fun x => mkOld x a).map .one) ⟨[s1, s2, s3, s4, .val (vL l) false fr, s6, s7, s8, s9, .val (.int (i : Int)) false true, s10, s11, x12], st⟩ := by
    have c : cutL (l.map Tr.int) none (some ((i : Int) + 1)) = (l.take (i + 1)).map Tr.int := by
      rw [cut_take (by simpa using hi), List.map_take]
    exact ⟨_, by simp only [vL]; simp [bevIt, bev, bevT, RB.bind, op1, finT, finsT, vaT, binT, addT, newB, mkNew, oneIntT, slcT, c, ySeq]; rfl⟩
  obtain ⟨a, it⟩ := it
  generalize hl2 : l.take (i + 1) = l2 at it
  have l2l : l2.length < 10000 := by rw [← hl2, List.length_take]; omega
  have ylen : ((((l2).map Tr.int).map fun x => mkOld x a).map Yb.one).length = l2.length := by simp
  obtain ⟨acc, f, bs', e, ha, hb⟩ := comp_inv (body := compBodyB [12] (.nm 12) (fun s => .ok true s) (bev C (.tup (.cons (.var 12) (.cons (.cst (.int 0)) .nil))))) ((((l2).map Tr.int).map fun x => mkOld x a).map .one)
    (fun i' acc bs => acc = (l2.take i').map (fun v => Tr.tup [.int v, .int 0]) ∧ bs = ⟨[s1, s2, s3, s4, .val (vL l) false fr, s6, s7, s8, s9, .val (.int (i : Int)) false true, s10, s11, x12], st⟩) (by
      intro i' y acc bs hy ⟨ha, hb⟩
      have hi' := (List.getElem?_eq_some_iff.mp hy).1
      rw [ylen] at hi'
      have gi : l2[i']? = some l2[i'] := List.getElem?_eq_getElem hi'
      rw [List.map_map, List.map_map, List.getElem?_map, gi] at hy
      cases hy
      subst ha hb
      refine ⟨⟨.tup [.int l2[i'], .int 0], true, false⟩, _, ?_, ?_, rfl⟩
      · rcases hx with rfl | ⟨v, rfl⟩
        · simp [compBodyB, tgSlots, tgYB, tgB, spreadB, wipeB, RB.bind, bev, bevs, mkOld, mkNew, mutT, imm, immE, immL, lvsT, lvsF, vaT, backB]
        · simp [compBodyB, tgSlots, tgYB, tgB, spreadB, wipeB, RB.bind, bev, bevs, mkOld, mkNew, mutT, imm, immE, immL, lvsT, lvsF, vaT, backB]
      · rw [take_get gi, List.map_append]
        rfl) [] true _ (by rw [ylen]; show 0 + l2.length ≤ 16777216; omega) ⟨by simp, rfl⟩
  rw [ylen, List.take_length] at ha
  subst ha hb
  refine ⟨f, ?_⟩
  unfold e_9 bev
  rw [it]
  exact e
theorem l_9 {o : Option Nat} {s10 s11 : Sb} (hx : Xn x12) (hp : 0 < p) (hi : InR p l) (hl : l.length < 10000) (ho : ∀ i, o = some i → i < l.length ∧ ∀ v : Nat, (v : Int) < p → (v : Int) ∈ l.take (i + 1)) :
    bex (CL ns k) lw_9 ⟨[.val .scr false false, .val (.int t) false true, .st, .val (.int p) false true, .val (vL l) false fr, .val r false fr2, .val R false g, .val (.str sh) false true, .no, .val (onT o) false true, s10, s11, x12], st⟩ =
      .nx ⟨[.val .scr false false, .val (.int t) false true, .st, .val (.int p) false true, .val (vL l) false fr, .val r false fr2, .val R false g, .val (.str sh) false true, .no, .val (onT o) false true, s10, s11, x12], st⟩ := by
  cases o with
  | none => simp [lw_9, onT, bex, bexs, btst, bev, RB.bind, RB.st, op1, finT, isNonT, truT, truB, liftB]
  | some i =>
    obtain ⟨h1, h2⟩ := ho i rfl
    obtain ⟨f, e⟩ := c_9 (C := CL ns k) (fr := fr) (st := st) (s1 := .val .scr false false) (s2 := .val (.int t) false true) (s3 := .st) (s4 := .val (.int p) false true) (s6 := .val r false fr2) (s7 := .val R false g) (s8 := .val (.str sh) false true) (s9 := .no) (s10 := s10) (s11 := s11) hx h1 hl
    have e' : preT e_9 (bev (CL ns k) e_9) ⟨[.val .scr false false, .val (.int t) false true, .st, .val (.int p) false true, .val (vL l) false fr, .val r false fr2, .val R false g, .val (.str sh) false true, .no, .val (.int (i : Int)) false true, s10, s11, x12], st⟩ = .ok (.inr ⟨.lst ((l.take (i + 1)).map fun v => .tup [.int v, .int 0]), f, true⟩) ⟨[.val .scr false false, .val (.int t) false true, .st, .val (.int p) false true, .val (vL l) false fr, .val r false fr2, .val R false g, .val (.str sh) false true, .no, .val (.int (i : Int)) false true, s10, s11, x12], st⟩ := by
      show (bev (CL ns k) e_9 _).bind _ = _
      rw [e]
      rfl
    obtain ⟨q, rfl⟩ := nat_of (show 0 ≤ p by omega)
    have ml := merge_len (l := l.take (i + 1)) (p := q) (fun v hv => hi v (List.mem_of_mem_take hv)) fun v hv => h2 v (by omega)
    generalize hA : ((l.take (i + 1)).map fun v => Tr.tup [Tr.int v, Tr.int 0]) = A at e'
    have pA : pairsT A = some ((l.take (i + 1)).map fun v => ((Sum.inl v : Key), Tr.int 0)) := by rw [← hA]; exact pairs_of _
    have dA : dictT [.lst A] = some (.dK (mergeT ((l.take (i + 1)).map fun v => ((Sum.inl v : Key), Tr.int 0)))) := by
      unfold dictT
      simp only [pA]
    generalize mergeT ((l.take (i + 1)).map fun v => ((Sum.inl v : Key), Tr.int 0)) = M at ml dA
    have lM : lenT [.dK M] = some (.int (q : Int)) := by
      unfold lenT
      simp only [ml]
    simp [lw_9, onT, bex, bexs, btst, bev, bevT, RB.bind, RB.st, op1, finT, finsT, isNonT, truT, truB, liftB, e', biT, dA, newB, mkNew, lM, cmpT, eqT_int, blB]
abbrev l11_body : Ss := (.cons (.exp (.mth .extend (.var 11) (.cons (.lst (.cons (.var 12) (.cons (.cst (.int 0)) .nil))) .nil))) .nil)
theorem l_10 {s0 s1 s2 s3 s4 s5 s6 s7 s8 s9 s10 : Sb} : bex (CL ns k) lw_10 ⟨[s0, s1, s2, s3, s4, s5, s6, s7, s8, s9, s10, x11, x12], st⟩ = .nx ⟨[s0, s1, s2, s3, s4, s5, s6, s7, s8, s9, s10, .val (.lst [.int 0]) true true, x12], st⟩ := by
  unfold lw_10
  rw [b_asg (v := ⟨.lst [.int 0], true, true⟩) (bs1 := ⟨[s0, s1, s2, s3, s4, s5, s6, s7, s8, s9, s10, x11, x12], st⟩) (fun i g as _ z => by cases z) (by simp [bev, bevs, RB.bind, vaT, mkNew, mutT, lvsT, lvsF])]
  rfl
theorem l_11 {s0 s1 s2 s4 s5 s6 s7 s8 s9 s10 : Sb} (hx : Xn x12) (hp : 1 ≤ p) (hp2 : p < 1000) : ∃ x12', Xn x12' ∧ bex (CL ns k) lw_11 ⟨[s0, s1, s2, .val (.int p) false true, s4, s5, s6, s7, s8, s9, s10, .val (.lst [.int 0]) true true, x12], st⟩ = .nx ⟨[s0, s1, s2, .val (.int p) false true, s4, s5, s6, s7, s8, s9, s10, .val (vL (dueL p)) true true, x12'], st⟩ := by
  have tt : btst (CL ns k) (.cmp (.ord .gt) (.var 3) (.cst (.int 1))) ⟨[s0, s1, s2, .val (.int p) false true, s4, s5, s6, s7, s8, s9, s10, .val (.lst [.int 0]) true true, x12], st⟩ = .ok (decide (1 < p)) ⟨[s0, s1, s2, .val (.int p) false true, s4, s5, s6, s7, s8, s9, s10, .val (.lst [.int 0]) true true, x12], st⟩ := by
    simp [btst, bev, RB.bind, op1, finT, vaT, cmpT, ordT, ordI, blB, truB, truT, liftB]
  unfold lw_11
  rw [b_ife tt]
  by_cases h : 1 < p
  · rw [if_pos (by simpa using h)]
    have a2 : bex (CL ns k) (.asg (.nm 11) (.lst .nil)) ⟨[s0, s1, s2, .val (.int p) false true, s4, s5, s6, s7, s8, s9, s10, .val (.lst [.int 0]) true true, x12], st⟩ = .nx ⟨[s0, s1, s2, .val (.int p) false true, s4, s5, s6, s7, s8, s9, s10, .val (.lst []) true true, x12], st⟩ := rfl
    have it : bevIt (CL ns k) (fun i => nmSs i l11_body) (.rng (.cons (.cst (.int 1)) (.cons (.var 3) .nil))) ⟨[s0, s1, s2, .val (.int p) false true, s4, s5, s6, s7, s8, s9, s10, .val (.lst []) true true, x12], st⟩ = .ok ((rngL 1 p).map fun k => .one ⟨.int k, true, false⟩) ⟨[s0, s1, s2, .val (.int p) false true, s4, s5, s6, s7, s8, s9, s10, .val (.lst []) true true, x12], st⟩ := by
      simp [bevIt, bev, bevT, RB.bind, finT, finsT, vaT, rng2 (show -1000000 < (1 : Int) ∧ (1 : Int) < 1000000 by decide) (show -1000000 < p ∧ p < 1000000 by omega)]
    have ylen : ((rngL 1 p).map fun k => Yb.one ⟨.int k, true, false⟩).length = (p - 1).toNat := by
      rw [List.length_map, rngL_len]
    obtain ⟨bs', a3, y12, hy12, hb⟩ := for_inv (tg := .nm 12) (body := bexs (CL ns k) l11_body) (fun i bs => ∃ y12, Xn y12 ∧ bs = ⟨[s0, s1, s2, .val (.int p) false true, s4, s5, s6, s7, s8, s9, s10, .val (vL (wayL i)) true true, y12], st⟩)
      ((rngL 1 p).map fun k => .one ⟨.int k, true, false⟩) (by
        intro i y bs hy ⟨y12, hy12, hb⟩
        have hi := (List.getElem?_eq_some_iff.mp hy).1
        rw [ylen] at hi
        rw [List.getElem?_map, rngL_get hi] at hy
        cases hy
        subst hb
        have e := ext_ok (a := wayL i) (b := [1 + (i : Int), 0]) (by rw [wayL_len]; show 2 * i + 2 < 16777216; omega)
        simp only [List.map] at e
        refine ⟨_, ⟨[s0, s1, s2, .val (.int p) false true, s4, s5, s6, s7, s8, s9, s10, .val (vL (wayL (i + 1))) true true, .val (.int (1 + (i : Int))) false true], st⟩, rfl, .inl ?_, _, .inr ⟨_, rfl⟩, rfl⟩
        rw [wayL_succ, show (i : Int) + 1 = 1 + i by omega]
        simp [bexs, bex, bev, bevs, RB.bind, RB.st, BX.seq, isMutM, kdT, vaT, mkOld, mkNew, imm, immE, immL, lvsT, lvsF, e])
      (bs := ⟨[s0, s1, s2, .val (.int p) false true, s4, s5, s6, s7, s8, s9, s10, .val (.lst []) true true, x12], st⟩) ⟨x12, hx, rfl⟩
    rw [ylen] at hb
    subst hb
    refine ⟨y12, hy12, ?_⟩
    rw [b_nx a2, b_nx ((b_for it).trans a3)]
    unfold dueL
    rw [if_neg (by omega)]
    rfl
  · rw [if_neg (by simpa using h)]
    refine ⟨x12, hx, ?_⟩
    have : p = 1 := by omega
    subst this
    rfl
theorem l_12 {n : Int} {hu : Bool} (h10 : ∀ f u, callB ns 12 TT k 10 [.v ⟨.int p, f, u⟩] st = .ok ⟨vL (dueL p), true, hu⟩ st) (S : ∀ f1 u1 f2 u2, callB ns 12 TT k 15 [.v ⟨.lst [vL (dueL p), vL (dueL p)], f1, u1⟩, .v ⟨.lst [vL (dueL p), vL (dueL p)], f2, u2⟩] st = .ok ⟨.bl true, true, false⟩ st)
    (h9 : ∀ f1 u1 f2 u2, callB ns 12 TT k 9 [.v ⟨.int p, f1, u1⟩, .v ⟨vL (dueL p), f2, u2⟩] st = .ok ⟨.int n, true, false⟩ st) (hn : ((dueL p).length : Int) - 1 = n) (S2 : ∀ f1 u1 f2 u2, callB ns 12 TT k 15 [.v ⟨.int n, f1, u1⟩, .v ⟨.int n, f2, u2⟩] st = .ok ⟨.bl true, true, false⟩ st)
    (h21 : p < 4 → ∃ f' u', ∀ f u, callB ns 12 TT k 21 [.v ⟨.int p, f, u⟩] st = .ok ⟨vL (dueL p), f', u'⟩ st) (sp : spB ⟨.lst [vL (dueL p), vL (dueL p)], true, false⟩ = true) {s4 s5 s6 s7 s8 s9 s10 : Sb} :
    blkB (CL ns k) lw_12 8 ⟨[.val .scr false false, .val (.int t) false true, .st, .val (.int p) false true, s4, s5, s6, s7, s8, s9, s10, .val (vL (dueL p)) true true, x12], st⟩ =
      .nx ⟨[.val .scr false false, .val (.int t) false true, .st, .val (.int p) false true, s4, s5, s6, s7, .no, s9, s10, .val (vL (dueL p)) true true, x12], st⟩ := by
  have hl : (((dueL p).map Tr.int).length : Int) - 1 = n := by rw [List.length_map]; exact hn
  have q : eqT true (vL (dueL p)) (vL (dueL p)) = some false := by rw [eqT_vL]; simp
  generalize dueL p = w at *
  simp only [vL] at *
  have e1 : bexs (noSg (CL ns k)) lw_12 ⟨[.val .scr false false, .val (.int t) false true, .st, .val (.int p) false true, s4, s5, s6, s7, s8, s9, s10, .val (.lst (w.map Tr.int)) true true, x12].map ageS, st⟩ =
      .nx ⟨[.val .scr false true, .val (.int t) false true, .st, .val (.int p) false true, ageS s4, ageS s5, ageS s6, ageS s7, .val (.lst [.lst (w.map Tr.int), .lst (w.map Tr.int)]) false true, ageS s9, ageS s10, .val (.lst (w.map Tr.int)) false false, ageS x12], st⟩ := by
    have b1 : bex (noSg (CL ns k)) (.asg (.nm 8) (.lst (.cons (.call 10 (.cons (.var 3) .nil)) (.cons (.callk 10 .nil (.cons (.var 3) .nil) [0]) .nil)))) ⟨[.val .scr false true, .val (.int t) false true, .st, .val (.int p) false true, ageS s4, ageS s5, ageS s6, ageS s7, ageS s8, ageS s9, ageS s10, .val (.lst (w.map Tr.int)) false false, ageS x12], st⟩ = .nx ⟨[.val .scr false true, .val (.int t) false true, .st, .val (.int p) false true, ageS s4, ageS s5, ageS s6, ageS s7, .val (.lst [.lst (w.map Tr.int), .lst (w.map Tr.int)]) true true, ageS s9, ageS s10, .val (.lst (w.map Tr.int)) false false, ageS x12], st⟩ := by
      rw [b_asg (v := ⟨.lst [.lst (w.map Tr.int), .lst (w.map Tr.int)], true, true⟩) (bs1 := ⟨[.val .scr false true, .val (.int t) false true, .st, .val (.int p) false true, ageS s4, ageS s5, ageS s6, ageS s7, ageS s8, ageS s9, ageS s10, .val (.lst (w.map Tr.int)) false false, ageS x12], st⟩) (fun i g as _ z => by cases z) (by simp [bev, bevs, bevA, RB.bind, RC.to, mkOld, mkNew, mutT, permA, mapO, lvsT, lvsF, h10])]
      rfl
    have b2 : bex (noSg (CL ns k)) (.ife (.or (.not (.call 15 (.cons (.var 8) (.cons (.lst (.cons (.var 11) (.cons (.var 11) .nil))) .nil)))) (.not (.call 15 (.cons (.call 9 (.cons (.var 3) (.cons (.bi .list (.cons (.var 11) .nil)) .nil))) (.cons (.bin .sub (.bi .len (.cons (.var 11) .nil)) (.cst (.int 1))) .nil))))) (.cons (.ret (.cst (.bl false))) .nil) .nil) ⟨[.val .scr false true, .val (.int t) false true, .st, .val (.int p) false true, ageS s4, ageS s5, ageS s6, ageS s7, .val (.lst [.lst (w.map Tr.int), .lst (w.map Tr.int)]) true true, ageS s9, ageS s10, .val (.lst (w.map Tr.int)) false false, ageS x12], st⟩ = .nx ⟨[.val .scr false true, .val (.int t) false true, .st, .val (.int p) false true, ageS s4, ageS s5, ageS s6, ageS s7, .val (.lst [.lst (w.map Tr.int), .lst (w.map Tr.int)]) false true, ageS s9, ageS s10, .val (.lst (w.map Tr.int)) false false, ageS x12], st⟩ := by
      have lt : lenT [.lst (w.map Tr.int)] = some (.int ((w.map Tr.int).length : Int)) := rfl
      generalize ((w.map Tr.int).length : Int) = z at lt hl
      subst hl
      simp [bex, bexs, btst, bevs, bev, bevA, bevT, RB.bind, RB.st, RC.to, vaT, op1, finT, finsT, biT, listT, lt, newB, mkNew, mkOld, mutT, binT, subT, lvsT, lvsF, S, h9, S2, truB, truT, liftB]
    have b3 : bex (noSg (CL ns k)) (.ife (.and (.cmp (.ord .lt) (.var 3) (.cst (.int 4))) (.cmp .ne (.var 11) (.call 21 (.cons (.var 3) .nil)))) (.cons (.ret (.cst (.bl false))) .nil) .nil) ⟨[.val .scr false true, .val (.int t) false true, .st, .val (.int p) false true, ageS s4, ageS s5, ageS s6, ageS s7, .val (.lst [.lst (w.map Tr.int), .lst (w.map Tr.int)]) false true, ageS s9, ageS s10, .val (.lst (w.map Tr.int)) false false, ageS x12], st⟩ = .nx ⟨[.val .scr false true, .val (.int t) false true, .st, .val (.int p) false true, ageS s4, ageS s5, ageS s6, ageS s7, .val (.lst [.lst (w.map Tr.int), .lst (w.map Tr.int)]) false true, ageS s9, ageS s10, .val (.lst (w.map Tr.int)) false false, ageS x12], st⟩ := by
      by_cases h : p < 4
      · obtain ⟨f', u', e⟩ := h21 h
        simp [bex, bexs, btst, bev, bevA, RB.bind, RB.st, RC.to, vaT, op1, finT, mkOld, cmpT, ordT, ordI, blB, truB, truT, liftB, h, e, q]
      · simp [bex, bexs, btst, bev, bevA, RB.bind, RB.st, RC.to, vaT, op1, finT, mkOld, cmpT, ordT, ordI, blB, truB, truT, liftB, h]
    unfold lw_12
    show bexs (noSg (CL ns k)) _ ⟨[.val .scr false true, .val (.int t) false true, .st, .val (.int p) false true, ageS s4, ageS s5, ageS s6, ageS s7, ageS s8, ageS s9, ageS s10, .val (.lst (w.map Tr.int)) false false, ageS x12], st⟩ = _
    rw [b_nx b1, b_nx b2, b_nx b3]
    rfl
  unfold blkB
  rw [e1]
  simp only []
  have e2 : bev (noSg (CL ns k)) (.var 8) ⟨[.val .scr false true, .val (.int t) false true, .st, .val (.int p) false true, ageS s4, ageS s5, ageS s6, ageS s7, .val (.lst [.lst (w.map Tr.int), .lst (w.map Tr.int)]) false true, ageS s9, ageS s10, .val (.lst (w.map Tr.int)) false false, ageS x12], st⟩ = .ok ⟨.lst [.lst (w.map Tr.int), .lst (w.map Tr.int)], true, false⟩ ⟨[.val .scr false true, .val (.int t) false true, .st, .val (.int p) false true, ageS s4, ageS s5, ageS s6, ageS s7, .val (.lst [.lst (w.map Tr.int), .lst (w.map Tr.int)]) false true, ageS s9, ageS s10, .val (.lst (w.map Tr.int)) false false, ageS x12], st⟩ := by
    simp [bev, mkOld]
  rw [e2]
  simp only []
  rw [if_pos ⟨sp, rfl⟩]
  rfl
theorem l_13 {hu : Bool} (h10 : ∀ f u, callB ns 12 TT k 10 [.v ⟨.int p, f, u⟩] st = .ok ⟨vL (dueL p), true, hu⟩ st) (S : ∀ f1 u1 f2 u2, callB ns 12 TT k 15 [.v ⟨vL (dueL p), f1, u1⟩, .v ⟨vL (dueL p), f2, u2⟩] st = .ok ⟨.bl true, true, false⟩ st) {s0 s1 s2 s4 s5 s6 s7 s8 s9 s10 : Sb} :
    bex (CL ns k) lw_13 ⟨[s0, s1, s2, .val (.int p) false true, s4, s5, s6, s7, s8, s9, s10, .val (vL (dueL p)) true true, x12], st⟩ = .nx ⟨[s0, s1, s2, .val (.int p) false true, s4, s5, s6, s7, s8, s9, s10, .val (vL (dueL p)) false true, x12], st⟩ := by
  generalize dueL p = w at *
  simp only [vL] at *
  simp [lw_13, bex, bexs, btst, bev, bevA, RB.bind, RB.st, RC.to, finT, mkOld, h10, S, truB, truT, liftB]
end
end HA

namespace HA
open PySem PySem.Spec PyProof.Rows L2
theorem vL_tr (l : List Int) : okT (vL l) = true ∧ eqOk (vL l) = true ∧ depT (vL l) = 1 ∧ mxT (vL l) = l.length ∧ wT (vL l) = 1 ∧ nT (vL l) = 1 := by
  obtain ⟨o1, o2, o3, o4⟩ := okTs_ints l
  have e : ∀ l : List Int, eqOks (l.map Tr.int) = true := by
    intro l
    induction l with
    | nil => rfl
    | cons i l ih => show (eqOk (.int i) && eqOks (l.map Tr.int)) = true; rw [ih]; rfl
  have n : ∀ l : List Int, nTs (l.map Tr.int) = 0 := by
    intro l
    induction l with
    | nil => rfl
    | cons i l ih => show nT (.int i) + nTs (l.map Tr.int) = 0; rw [ih]; rfl
  refine ⟨o1, e l, ?_, ?_, ?_, ?_⟩
  · show depTs (l.map Tr.int) + 1 = 1
    omega
  · show max (l.map Tr.int).length (mxTs (l.map Tr.int)) = l.length
    rw [List.length_map]
    omega
  · show wTs (l.map Tr.int) + 1 = 1
    omega
  · show nTs (l.map Tr.int) + 1 = 1
    rw [n]
theorem RT_tr {l : List Int} : okT (RT l) = true ∧ eqOk (RT l) = true ∧ depT (RT l) ≤ 2 ∧ mxT (RT l) ≤ max l.length 2 ∧ wT (RT l) = 1 := by
  obtain ⟨ra, rb, rc, rd, re⟩ := run_tr (often := 1) (lit := 0) (l := l) (n := l.length)
  have rlen := runT_len (often := 1) (lit := 0) (l := l) (n := l.length)
  refine ⟨ra, re, ?_, ?_, ?_⟩
  · show depTs (runT 1 0 l l.length) + 1 ≤ 2
    omega
  · show max (runT 1 0 l l.length).length (mxTs (runT 1 0 l l.length)) ≤ _
    omega
  · show wTs (runT 1 0 l l.length) + 1 = 1
    omega
theorem sp_two {R : Tr} (a : okT R = true) (b : depT R ≤ 10) (c : mxT R ≤ 100000) (d : wT R ≤ 100) : spB ⟨.lst [R, R], true, false⟩ = true := by
  unfold spB
  have a : okT (.lst [R, R]) = true := by show (okT R && (okT R && true)) = true; rw [a]; rfl
  have b : depT (.lst [R, R]) ≤ 20 := by show max (depT R) (max (depT R) 0) + 1 ≤ 20; omega
  have c : mxT (.lst [R, R]) + wT (.lst [R, R]) < BIG := by show max 2 (max (mxT R) (max (mxT R) 0)) + ((wT R + (wT R + 0)) + 1) < 16777216; omega
  simp only [a, decide_eq_true b, decide_eq_true c]
  rfl
theorem due_len {p : Int} (hp : 1 ≤ p) (hp2 : p < 1000) : (dueL p).length < 3000 ∧ InR p (dueL p) := by
  unfold dueL
  split
  · rename_i h
    subst h
    exact ⟨by decide, by decide⟩
  · refine ⟨by rw [wayL_len]; omega, fun v hv => ?_⟩
    have := wayL_in _ v hv
    omega
theorem due_tell {p : Int} (hp : 1 ≤ p) : onT (fstQ (tlQ 1 0 (p - 1) (dueL p)) (dueL p).length) = .int ((dueL p).length - 1) := by
  unfold dueL
  split
  · rename_i h
    subst h
    rfl
  · obtain ⟨n, hn⟩ := nat_of (show 0 ≤ p - 1 by omega)
    rw [hn, Int.toNat_natCast, way_first (by omega), wayL_len]
    show Tr.int ((2 * n - 1 : Nat) : Int) = _
    congr 1
    omega
section
variable {ns : List Int} {k : Nat}
theorem k_lawrun {p : Int} {l : List Int} {st : Strm} (hk : 1 ≤ k) (hl : l.length < 16777216) :
    ∃ g, ∀ f1 u1 f2 u2 f3 u3 f4 u4, callB ns 12 TT k 18 [.v ⟨.int p, f1, u1⟩, .v ⟨.int 0, f2, u2⟩, .v ⟨.int 1, f3, u3⟩, .v ⟨vL l, f4, u4⟩] st = .ok ⟨RT l, g, true⟩ st := by
  obtain ⟨k, rfl⟩ : ∃ j, k = j + 1 := ⟨k - 1, by omega⟩
  obtain ⟨g, e⟩ := lawRun_b (C := ⟨ns, none, callB ns 12 TT k⟩) (p := p) (often := 1) (lit := 0) (st := st) (vis := vL l) rfl (.inl rfl) hl
  refine ⟨g, fun f1 u1 f2 u2 f3 u3 f4 u4 => ?_⟩
  rw [call_go (by decide) rfl]
  exact run_rt rfl e
theorem k_lawtells {wanted : Int} {l : List Int} {st : Strm} (hk : 1 ≤ k) (f1 u1 f2 u2 f3 u3 : Bool) :
    callB ns 12 TT k 19 [.v ⟨RT l, f1, u1⟩, .v ⟨vL l, f2, u2⟩, .v ⟨.int wanted, f3, u3⟩] st = .ok ⟨onT (fstQ (tlQ 1 0 wanted l) l.length), true, false⟩ st := by
  obtain ⟨k, rfl⟩ : ∃ j, k = j + 1 := ⟨k - 1, by omega⟩
  rw [call_go (by decide) rfl]
  exact run_rt rfl lawTells_b
theorem turn_ok (hn : ns.length ≤ 63) (hk : 40 ≤ k) {t : Int} {x2 x3 x4 x5 x6 x7 x8 x9 x10 x11 x12 : Sb} {st : Strm} (hx : Xn x12) :
    ∃ y1 y2 y3 y4 y5 y6 y7 y8 y9 y10 y11 y12 st', Xn y12 ∧ bexLs (CL ns k) lw_turn ⟨[.val .scr false false, .val (.int t) false true, x2, x3, x4, x5, x6, x7, x8, x9, x10, x11, x12], st⟩ = .nx ⟨[.val .scr false false, y1, y2, y3, y4, y5, y6, y7, y8, y9, y10, y11, y12], st'⟩ := by
  have g0 : StG 0 ⟨ns ++ [t], 0, 0, 19⟩ := ⟨Int.le_refl _, Int.le_refl _, (by show (0 : Int) ≤ 19; decide), (by show (19 : Int) < 2147483648; decide), by rw [List.length_append, List.length_singleton]; omega⟩
  have hd : DrawC ⟨ns, none, callB ns 12 TT k⟩ 12 CNT := drawC_of (by omega) (Int.le_refl _)
  have cnt : CNT = 1000000000000 := rfl
  have hx' : dst x12 = x12 := by rcases hx with rfl | ⟨v, rfl⟩ <;> rfl
  obtain ⟨m, hm⟩ : ∃ m : Int, m = if t < 2 then 30 else 5 := ⟨_, rfl⟩
  have hm2 : 0 < m ∧ m ≤ 30 := by
    rw [hm]
    split <;> omega
  obtain ⟨d, st1, e1, a1, b1, g1⟩ := hd 0 _ m true false g0 (by omega) hm2.1 (by omega)
  obtain ⟨l, fr, st3, e3, hl, hi, g3⟩ := k_lv (ns := ns) (k := k) (p := 1 + d) (st := st1) (by omega) (Int.le_refl _) g1 (by omega) (by omega) (by omega)
  obtain ⟨v1, v2, v3, v4, v5, v6⟩ := vL_tr l
  obtain ⟨r, fr2, u, st4, e4, lo, g4⟩ := loose_ok (ns := ns) (dg := 12) (gl := 16) (T := TT) (by decide) rfl (cM := CNT) (Int.le_refl _) 1 k (by omega) (vL l) v1 (by omega) (by rw [v4]; show l.length ≤ 16777216; omega) fr false _ st3 (by rw [v6]; omega) g3
  have hr := lo.vL
  obtain ⟨g, e5⟩ := k_lawrun (ns := ns) (k := k) (p := 1 + d) (l := l) (st := st4) (by omega) (by omega)
  obtain ⟨sh, hs, hk2⟩ := repr_ints hr (fun v hv => by have := hi v hv; omega) (by omega)
  have T1 : ∀ f1 u1 f2 u2, callB ns 12 TT k 8 [.v ⟨.int (1 + d), f1, u1⟩, .v ⟨r, f2, u2⟩] st4 = .ok ⟨RT l, true, true⟩ st4 := fun f1 u1 f2 u2 => k_lrun (by omega) (by omega) (by omega) hr (by omega) hi f1 u1 f2 u2
  have T2 : ∀ f1 u1 f2 u2, callB ns 12 TT k 8 [.v ⟨.int (1 + d), f1, u1⟩, .v ⟨vL l, f2, u2⟩] st4 = .ok ⟨RT l, true, true⟩ st4 := fun f1 u1 f2 u2 => k_lrun (by omega) (by omega) (by omega) (.inl rfl) (by omega) hi f1 u1 f2 u2
  have ta : ∀ f1 u1 f2 u2, callB ns 12 TT k 9 [.v ⟨.int (1 + d), f1, u1⟩, .v ⟨r, f2, u2⟩] st4 = .ok ⟨onT (fstQ (tlQ 1 0 (1 + d - 1) l) l.length), true, false⟩ st4 := fun f1 u1 f2 u2 => k_ltells (by omega) (by omega) (by omega) hr (by omega) hi f1 u1 f2 u2
  have tb : ∀ f1 u1 f2 u2, callB ns 12 TT k 9 [.v ⟨.int (1 + d), f1, u1⟩, .v ⟨vL l, f2, u2⟩] st4 = .ok ⟨onT (fstQ (tlQ 1 0 (1 + d - 1) l) l.length), true, false⟩ st4 := fun f1 u1 f2 u2 => k_ltells (by omega) (by omega) (by omega) (.inl rfl) (by omega) hi f1 u1 f2 u2
  obtain ⟨r1, r2, r3, r4, r5⟩ := RT_tr (l := l)
  have r4 : mxT (RT l) ≤ 1000 := by omega
  have S1 := fun f1 u1 f2 u2 => k_same (ns := ns) (st := st4) (k := k) (t := .lst [RT l, RT l]) (by omega) (by show (eqOk (RT l) && (eqOk (RT l) && true)) = true; rw [r2]; rfl) (by show max (depT (RT l)) (max (depT (RT l)) 0) + 1 ≤ 10; omega) (by show max 2 (max (mxT (RT l)) (max (mxT (RT l)) 0)) ≤ 16777216; omega) f1 u1 f2 u2
  have hot : ∀ o : Option Nat, eqOk (onT o) = true ∧ depT (onT o) = 0 ∧ mxT (onT o) = 0 := fun o => by cases o <;> exact ⟨rfl, rfl, rfl⟩
  have ho : ∀ i, fstQ (tlQ 1 0 (1 + d - 1) l) l.length = some i → i < l.length ∧ ∀ v : Nat, (v : Int) < 1 + d → (v : Int) ∈ l.take (i + 1) := fun i e => by
    unfold fstQ at e
    rw [List.find?_range_eq_some] at e
    have hi2 : i < l.length := by simpa using e.2.1
    obtain ⟨q, hq⟩ := nat_of (show 0 ≤ 1 + d by omega)
    refine ⟨hi2, fun v hv => ?_⟩
    rw [hq] at hi e hv
    exact all_there hi hi2 (by omega) e.1 v (by omega)
  have S2 : ∀ f1 u1 f2 u2, callB ns 12 TT k 15 [.v ⟨.lst [RT l, onT (fstQ (tlQ 1 0 (1 + d - 1) l) l.length), onT (fstQ (tlQ 1 0 (1 + d - 1) l) l.length)], f1, u1⟩, .v ⟨.lst [RT l, onT (fstQ (tlQ 1 0 (1 + d - 1) l) l.length), onT (fstQ (tlQ 1 0 (1 + d - 1) l) l.length)], f2, u2⟩] st4 = .ok ⟨.bl true, true, false⟩ st4 := by
    obtain ⟨h1, h2, h3⟩ := hot (fstQ (tlQ 1 0 (1 + d - 1) l) l.length)
    exact fun f1 u1 f2 u2 => k_same (by omega)
      (by show (eqOk (RT l) && (eqOk _ && (eqOk _ && true))) = true; rw [h1, r2]; rfl)
      (by show max (depT (RT l)) (max (depT _) (max (depT _) 0)) + 1 ≤ 10; rw [h2]; omega)
      (by show max 3 (max (mxT (RT l)) (max (mxT _) (max (mxT _) 0))) ≤ 16777216; rw [h3]; omega) f1 u1 f2 u2
  obtain ⟨hu, h10⟩ := k_least (ns := ns) (st := st4) (k := k) (p := 1 + d) (by omega) (by omega) (by omega)
  obtain ⟨dl1, dl2⟩ := due_len (p := 1 + d) (by omega) (by omega)
  obtain ⟨w1, w2, w3, w4, w5, w6⟩ := vL_tr (dueL (1 + d))
  have S3 := fun f1 u1 f2 u2 => k_same (ns := ns) (st := st4) (k := k) (t := .lst [vL (dueL (1 + d)), vL (dueL (1 + d))]) (by omega) (by show (eqOk (vL (dueL (1 + d))) && (eqOk (vL (dueL (1 + d))) && true)) = true; rw [w2]; rfl) (by show max (depT (vL (dueL (1 + d)))) (max (depT (vL (dueL (1 + d)))) 0) + 1 ≤ 10; omega) (by show max 2 (max (mxT (vL (dueL (1 + d)))) (max (mxT (vL (dueL (1 + d)))) 0)) ≤ 16777216; omega) f1 u1 f2 u2
  have S4 := fun f1 u1 f2 u2 => k_same (ns := ns) (st := st4) (k := k) (t := vL (dueL (1 + d))) (by omega) w2 (by omega) (by rw [w4]; show _ ≤ 16777216; omega) f1 u1 f2 u2
  have S5 : ∀ f1 u1 f2 u2, callB ns 12 TT k 15 [.v ⟨.int ((dueL (1 + d)).length - 1), f1, u1⟩, .v ⟨.int ((dueL (1 + d)).length - 1), f2, u2⟩] st4 = .ok ⟨.bl true, true, false⟩ st4 := fun f1 u1 f2 u2 => k_same (ns := ns) (st := st4) (k := k) (t := .int ((dueL (1 + d)).length - 1)) (by omega) rfl (Nat.zero_le _) (Nat.zero_le _) f1 u1 f2 u2
  have h9 : ∀ f1 u1 f2 u2, callB ns 12 TT k 9 [.v ⟨.int (1 + d), f1, u1⟩, .v ⟨vL (dueL (1 + d)), f2, u2⟩] st4 = .ok ⟨.int ((dueL (1 + d)).length - 1), true, false⟩ st4 := fun f1 u1 f2 u2 => by
    have := k_ltells (ns := ns) (st := st4) (k := k) (p := 1 + d) (l := dueL (1 + d)) (by omega) (by omega) (by omega) (.inl rfl) (by omega) dl2 f1 u1 f2 u2
    rwa [due_tell (by omega)] at this
  obtain ⟨y12, hy12, e11⟩ := l_11 (ns := ns) (k := k) (p := 1 + d) (st := st4) (s0 := .val .scr false false) (s1 := .val (.int t) false true) (s2 := .st) (s4 := .val (vL l) false fr) (s5 := .val r false fr2) (s6 := .val (RT l) false g) (s7 := .val (.str sh) false true) (s8 := .no) (s9 := .val (onT (fstQ (tlQ 1 0 (1 + d - 1) l) l.length)) false true) (s10 := .val (.lst [RT l, onT (fstQ (tlQ 1 0 (1 + d - 1) l) l.length), onT (fstQ (tlQ 1 0 (1 + d - 1) l) l.length)]) false true) hx (by omega) (by omega)
  refine ⟨.val (.int t) false true, .st, .val (.int (1 + d)) false true, .val (vL l) false fr, .val r false fr2, .val (RT l) false g, .val (.str sh) false true, .no, .val (onT (fstQ (tlQ 1 0 (1 + d - 1) l) l.length)) false true, .val (.lst [RT l, onT (fstQ (tlQ 1 0 (1 + d - 1) l) l.length), onT (fstQ (tlQ 1 0 (1 + d - 1) l) l.length)]) false true, .val (vL (dueL (1 + d))) false true, y12, st4, hy12, ?_⟩
  unfold lw_turn
  rw [bL_s (l_1 hn), hx', bL_s (l_2 hm e1), bL_s (l_3 e3), bL_s (l_4 e4 e5), bL_blk (l_5 T1 T2 S1 hs (sp_two r1 (by omega) (by omega) (by omega))), bL_s (l_6 (k_lawtells (by omega))), bL_s (l_7 T1 ta tb), bL_s (l_8 S2 hs hk2), bL_s (l_9 hx (by omega) hi (by omega) ho), bL_s l_10, bL_s e11,
    bL_blk (l_12 h10 S3 h9 rfl S5 (fun h => k_lleast (by omega) (by omega)) (sp_two w1 (by omega) (by omega) (by omega))), bL_s (l_13 h10 S4)]
  rfl
theorem law_b (hn : ns.length ≤ 63) (hk : 40 ≤ k) : ∃ f u st, bexLs (CL ns k) lw_law ⟨.val .scr false false :: List.replicate 12 .no, ⟨[], 0, 0, 0⟩⟩ = .rt ⟨.bl true, f, u⟩ st := by
  have it : bevIt (CL ns k) (fun i => nmLs i lw_turn) (.rng (.cons (.cst (.int 6)) .nil)) ⟨.val .scr false false :: List.replicate 12 .no, ⟨[], 0, 0, 0⟩⟩ = .ok ((rngL 0 6).map fun k => .one ⟨.int k, true, false⟩) ⟨.val .scr false false :: List.replicate 12 .no, ⟨[], 0, 0, 0⟩⟩ := rfl
  obtain ⟨bs', e, x1, x2, x3, x4, x5, x6, x7, x8, x9, x10, x11, x12, st, hx, rfl⟩ := for_inv (tg := .nm 1) (body := bexLs (CL ns k) lw_turn)
    (fun i bs => ∃ x1 x2 x3 x4 x5 x6 x7 x8 x9 x10 x11 x12 st, Xn x12 ∧ bs = ⟨[.val .scr false false, x1, x2, x3, x4, x5, x6, x7, x8, x9, x10, x11, x12], st⟩)
    ((rngL 0 6).map fun k => .one ⟨.int k, true, false⟩) (by
      intro i y bs hy ⟨x1, x2, x3, x4, x5, x6, x7, x8, x9, x10, x11, x12, st, hx, hb⟩
      obtain ⟨t, rfl⟩ : ∃ kk, y = Yb.one ⟨.int kk, true, false⟩ := by
        rw [List.getElem?_map] at hy
        cases q : (rngL 0 6)[i]? with
        | none => rw [q] at hy; cases hy
        | some z => rw [q] at hy; cases hy; exact ⟨z, rfl⟩
      subst hb
      obtain ⟨y1, y2, y3, y4, y5, y6, y7, y8, y9, y10, y11, y12, st', hy, e⟩ := turn_ok (ns := ns) (k := k) hn hk (t := t) (x2 := x2) (x3 := x3) (x4 := x4) (x5 := x5) (x6 := x6) (x7 := x7) (x8 := x8) (x9 := x9) (x10 := x10) (x11 := x11) (st := st) hx
      exact ⟨_, _, rfl, .inl e, y1, y2, y3, y4, y5, y6, y7, y8, y9, y10, y11, y12, st', hy, rfl⟩)
    (bs := ⟨.val .scr false false :: List.replicate 12 .no, ⟨[], 0, 0, 0⟩⟩) ⟨.no, .no, .no, .no, .no, .no, .no, .no, .no, .no, .no, .no, _, .inl rfl, rfl⟩
  refine ⟨true, false, st, ?_⟩
  unfold lw_law
  rw [bL_for it e]
  rfl
end
theorem law_ok : LawT TT 60 22 := lawL (dg := 12) (sg := 11) (gs := 17) (k := 59) (n := 13) (L := lw_law) rfl rfl rfl (by decide) (by rw [lw_era]; rfl) fun ns hn => law_b hn (by decide)
end HA

namespace HA
open PySem PySem.Spec PyProof.Rows L2
def top (i : Nat) : Stmt := PySem.Challenge.pw_hatsunseen_k69_whole_main_one_counts_for.main.body.getD i (.Pass ⟨0, 0, 0, 0⟩)
def es0 : List Ent := [⟨"is_list", top 1, ["thing"], ["thing"]⟩,
  ⟨"is_whole", top 2, ["thing"], ["thing"]⟩,
  ⟨"is_number", top 3, ["thing"], ["thing"]⟩,
  ⟨"is_index", top 4, ["thing", "many"], ["thing", "many"]⟩,
  ⟨"check_people", top 11, ["people"], ["people"]⟩,
  ⟨"check_visits", top 13, ["people", "visits"], ["people", "visits", "wrong", "index", "person"]⟩,
  ⟨"run_of", top 14, ["people", "lit", "often", "visits"], ["people", "lit", "often", "visits", "turned", "count", "here", "found", "person"]⟩,
  ⟨"telling", top 15, ["run", "visits", "wanted"], ["run", "visits", "wanted", "good", "index", "_", "count"]⟩,
  ⟨"lamp_run", top 16, ["people", "visits"], ["people", "visits"]⟩,
  ⟨"lamp_tells", top 17, ["people", "visits"], ["people", "visits"]⟩,
  ⟨"least_run", top 18, ["people"], ["people", "found", "person"]⟩,
  ⟨"_law_stream", top 20, ["script"], ["script"]⟩,
  ⟨"_law_draw", top 21, ["stream", "many"], ["stream", "many", "cell", "digit", "mixed"]⟩,
  ⟨"_law_pick", top 22, ["stream", "things"], ["stream", "things"]⟩,
  ⟨"_law_mixed", top 23, ["stream", "things"], ["stream", "things", "left", "found", "k"]⟩,
  ⟨"_law_same", top 24, ["found", "due"], ["found", "due", "mine", "theirs"]⟩,
  ⟨"_law_loose", top 25, ["stream", "thing"], ["stream", "thing", "some", "one"]⟩,
  ⟨"_law_spoilt", top 26, ["thing"], ["thing", "key", "part"]⟩,
  ⟨"_law_run", top 27, ["people", "lit", "often", "visits"], ["people", "lit", "often", "visits", "here", "count", "found", "turned", "person"]⟩,
  ⟨"_law_tells", top 28, ["run", "visits", "wanted"], ["run", "visits", "wanted", "at", "person"]⟩]
def es1 : List Ent := [⟨"_law_visits", top 29, ["stream", "people"], ["stream", "people", "way", "many", "found", "step", "at", "person"]⟩,
  ⟨"_law_least", top 30, ["people"], ["people", "ways", "step", "longer", "way", "person"]⟩,
  ⟨"law", top 31, ["script"], ["script", "turn", "stream", "people", "visits", "handed", "due", "look", "told", "at", "found", "way", "person"]⟩]
def es : List Ent := es0 ++ es1
def GG0 : List (Str × Gd) := [("is_list", .df 0 ["thing"]),
  ("is_whole", .df 1 ["thing"]),
  ("is_number", .df 2 ["thing"]),
  ("is_index", .df 3 ["thing", "many"]),
  ("check_people", .df 4 ["people"]),
  ("check_visits", .df 5 ["people", "visits"]),
  ("run_of", .df 6 ["people", "lit", "often", "visits"]),
  ("telling", .df 7 ["run", "visits", "wanted"]),
  ("lamp_run", .df 8 ["people", "visits"]),
  ("lamp_tells", .df 9 ["people", "visits"]),
  ("least_run", .df 10 ["people"]),
  ("_law_stream", .df 11 ["script"]),
  ("_law_draw", .df 12 ["stream", "many"]),
  ("_law_pick", .df 13 ["stream", "things"]),
  ("_law_mixed", .df 14 ["stream", "things"]),
  ("_law_same", .df 15 ["found", "due"]),
  ("_law_loose", .df 16 ["stream", "thing"]),
  ("_law_spoilt", .df 17 ["thing"]),
  ("_law_run", .df 18 ["people", "lit", "often", "visits"]),
  ("_law_tells", .df 19 ["run", "visits", "wanted"])]
def GG1 : List (Str × Gd) := [("_law_visits", .df 20 ["stream", "people"]),
  ("_law_least", .df 21 ["people"]),
  ("law", .df 22 ["script"]),
  ("HatError", .cls 0),
  ("BadPeople", .cls 1),
  ("BadVisits", .cls 2)]
def GG : List (Str × Gd) := GG0 ++ GG1
def KW0 : List (Str × Nat × List Str) := [("lamp_tells", 0, ["visits", "people"]),
  ("least_run", 0, ["people"]),
  ("lamp_run", 0, ["visits", "people"])]
def KW : List (Str × Nat × List Str) := KW0
set_option maxHeartbeats 0
theorem T_eq : mkT GG KW es = TT.map some := by kernel_rfl
theorem bp0 : BindP ["thing"] (defArgs (top 1)) := fun _ _ _ _ _ _ _ _ _ _ us hl => match us, hl with | [_], _ => rfl
theorem bp1 : BindP ["thing"] (defArgs (top 2)) := fun _ _ _ _ _ _ _ _ _ _ us hl => match us, hl with | [_], _ => rfl
theorem bp2 : BindP ["thing"] (defArgs (top 3)) := fun _ _ _ _ _ _ _ _ _ _ us hl => match us, hl with | [_], _ => rfl
theorem bp3 : BindP ["thing", "many"] (defArgs (top 4)) := fun _ _ _ _ _ _ _ _ _ _ us hl => match us, hl with | [_, _], _ => rfl
theorem bp4 : BindP ["people"] (defArgs (top 11)) := fun _ _ _ _ _ _ _ _ _ _ us hl => match us, hl with | [_], _ => rfl
theorem bp5 : BindP ["people", "visits"] (defArgs (top 13)) := fun _ _ _ _ _ _ _ _ _ _ us hl => match us, hl with | [_, _], _ => rfl
theorem bp6 : BindP ["people", "lit", "often", "visits"] (defArgs (top 14)) := fun _ _ _ _ _ _ _ _ _ _ us hl => match us, hl with | [_, _, _, _], _ => rfl
theorem bp7 : BindP ["run", "visits", "wanted"] (defArgs (top 15)) := fun _ _ _ _ _ _ _ _ _ _ us hl => match us, hl with | [_, _, _], _ => rfl
theorem bp8 : BindP ["people", "visits"] (defArgs (top 16)) := fun _ _ _ _ _ _ _ _ _ _ us hl => match us, hl with | [_, _], _ => rfl
theorem bp9 : BindP ["people", "visits"] (defArgs (top 17)) := fun _ _ _ _ _ _ _ _ _ _ us hl => match us, hl with | [_, _], _ => rfl
theorem bp10 : BindP ["people"] (defArgs (top 18)) := fun _ _ _ _ _ _ _ _ _ _ us hl => match us, hl with | [_], _ => rfl
theorem bp11 : BindP ["script"] (defArgs (top 20)) := fun _ _ _ _ _ _ _ _ _ _ us hl => match us, hl with | [_], _ => rfl
theorem bp12 : BindP ["stream", "many"] (defArgs (top 21)) := fun _ _ _ _ _ _ _ _ _ _ us hl => match us, hl with | [_, _], _ => rfl
theorem bp13 : BindP ["stream", "things"] (defArgs (top 22)) := fun _ _ _ _ _ _ _ _ _ _ us hl => match us, hl with | [_, _], _ => rfl
theorem bp14 : BindP ["stream", "things"] (defArgs (top 23)) := fun _ _ _ _ _ _ _ _ _ _ us hl => match us, hl with | [_, _], _ => rfl
theorem bp15 : BindP ["found", "due"] (defArgs (top 24)) := fun _ _ _ _ _ _ _ _ _ _ us hl => match us, hl with | [_, _], _ => rfl
theorem bp16 : BindP ["stream", "thing"] (defArgs (top 25)) := fun _ _ _ _ _ _ _ _ _ _ us hl => match us, hl with | [_, _], _ => rfl
theorem bp17 : BindP ["thing"] (defArgs (top 26)) := fun _ _ _ _ _ _ _ _ _ _ us hl => match us, hl with | [_], _ => rfl
theorem bp18 : BindP ["people", "lit", "often", "visits"] (defArgs (top 27)) := fun _ _ _ _ _ _ _ _ _ _ us hl => match us, hl with | [_, _, _, _], _ => rfl
theorem bp19 : BindP ["run", "visits", "wanted"] (defArgs (top 28)) := fun _ _ _ _ _ _ _ _ _ _ us hl => match us, hl with | [_, _, _], _ => rfl
theorem bp20 : BindP ["stream", "people"] (defArgs (top 29)) := fun _ _ _ _ _ _ _ _ _ _ us hl => match us, hl with | [_, _], _ => rfl
theorem bp21 : BindP ["people"] (defArgs (top 30)) := fun _ _ _ _ _ _ _ _ _ _ us hl => match us, hl with | [_], _ => rfl
theorem bp22 : BindP ["script"] (defArgs (top 31)) := fun _ _ _ _ _ _ _ _ _ _ us hl => match us, hl with | [_], _ => rfl
theorem bpa0 : AllP (fun e : Ent => BindP e.ps (defArgs e.st)) es0 := ⟨bp0, bp1, bp2, bp3, bp4, bp5, bp6, bp7, bp8, bp9, bp10, bp11, bp12, bp13, bp14, bp15, bp16, bp17, bp18, bp19, trivial⟩
theorem bpa1 : AllP (fun e : Ent => BindP e.ps (defArgs e.st)) es1 := ⟨bp20, bp21, bp22, trivial⟩
theorem bpa : AllP (fun e : Ent => BindP e.ps (defArgs e.st)) es := bpa0.app bpa1
theorem kp0 : KwP ["people", "visits"] (defArgs (top 17)) 0 ["visits", "people"] := by
  intro x qual body scope kV doc pm an cdv ct pr us ws zs hp l1 l2 hz
  have e : kwPerm ["people", "visits"] 0 ["visits", "people"] = some [1, 0] := by decide +kernel
  rw [e] at hp
  cases hp
  match us, ws, l1, l2 with
  | [], [_, _], _, _ =>
    cases hz
    rfl
theorem kp1 : KwP ["people"] (defArgs (top 18)) 0 ["people"] := by
  intro x qual body scope kV doc pm an cdv ct pr us ws zs hp l1 l2 hz
  have e : kwPerm ["people"] 0 ["people"] = some [0] := by decide +kernel
  rw [e] at hp
  cases hp
  match us, ws, l1, l2 with
  | [], [_], _, _ =>
    cases hz
    rfl
theorem kp2 : KwP ["people", "visits"] (defArgs (top 16)) 0 ["visits", "people"] := by
  intro x qual body scope kV doc pm an cdv ct pr us ws zs hp l1 l2 hz
  have e : kwPerm ["people", "visits"] 0 ["visits", "people"] = some [1, 0] := by decide +kernel
  rw [e] at hp
  cases hp
  match us, ws, l1, l2 with
  | [], [_, _], _, _ =>
    cases hz
    rfl
theorem kpa0 : AllP (fun p : Str × Nat × List Str => ∃ e, e ∈ es ∧ e.x = p.1 ∧ KwP e.ps (defArgs e.st) p.2.1 p.2.2) KW0 := ⟨⟨_, List.mem_of_getElem? (i := 9) rfl, rfl, kp0⟩, ⟨_, List.mem_of_getElem? (i := 10) rfl, rfl, kp1⟩, ⟨_, List.mem_of_getElem? (i := 8) rfl, rfl, kp2⟩,  trivial⟩
theorem kpa : AllP (fun p : Str × Nat × List Str => ∃ e, e ∈ es ∧ e.x = p.1 ∧ KwP e.ps (defArgs e.st) p.2.1 p.2.2) KW := kpa0
theorem modOk {K : PySem.W.Frag} {h : Heap} {mg : Str → Option Value} (X : K.In h) (G : h.Ns mainGlobals mg) (c : He.SaysD (faOf es GG) (es.map entD) K) : ModOk K mg GG KW es TT :=
  modOk_of X G c fa_glo fa_free bpa.mem (hk_of (by decide +kernel) kpa) (by kernel_rfl) T_eq (by kernel_rfl)
def nms0 : List PySem.Str := ["is_list",
  "is_whole",
  "is_number",
  "is_index",
  "check_people",
  "check_visits",
  "run_of",
  "telling",
  "lamp_run",
  "lamp_tells",
  "least_run",
  "_law_stream",
  "_law_draw",
  "_law_pick",
  "_law_mixed",
  "_law_same",
  "_law_loose",
  "_law_spoilt",
  "_law_run",
  "_law_tells",
  "_law_visits",
  "_law_least",
  "HatError",
  "BadPeople",
  "BadVisits"]
def nms : List PySem.Str := nms0
abbrev R : PySem.W.OpenRow := PySem.W.OpenLaw.row PySem.Challenge.rw_hatsunseen_k69_whole_main_one_counts_for
abbrev hk : PySem.W.Hook := He.hookD 4 (faOf es GG) (es.map entD)
def ob (s : PySem.W.SharedT) : He.AlD := He.obsDG 4 (faOf es GG) (es.map entD) (HandSHeadRun.getT s)
theorem ob_eq (s : PySem.W.SharedT) : ob s = hk.obs s.abs := He.obsDG_eq (HandSHeadRun.getT_eq s)
theorem run (w : World) : HandSHeadRun.RunEq R (PySem.W.view R.prog [31]) hk ob 4000 nms w := by
  intro os
  kernel_rfl
end HA
open PySem PySem.W PySem.Calls PyProof.Rows
theorem holds_of (L : HA.LawT HA.TT 60 22) : PySem.Challenge.rw_hatsunseen_k69_whole_main_one_counts_for.Holds := by
  w_on; o_law
  refine HandSHeadRun.head_any (r := OpenLaw.row PySem.Challenge.rw_hatsunseen_k69_whole_main_one_counts_for) (q := view (OpenLaw.row PySem.Challenge.rw_hatsunseen_k69_whole_main_one_counts_for).prog [31]) (H := HA.hk) (ob := HA.ob) (M := 4000) (loose := HA.nms) (d := HandSHeadRun.topDef (OpenLaw.row PySem.Challenge.rw_hatsunseen_k69_whole_main_one_counts_for).prog 31) (kwd := []) HA.ob_eq
    (by kernel_rfl) (fun s => by kernel_rfl) HA.run (by kernel_rfl) (by kernel_rfl) (by kernel_rfl) (by rfl) (by first | assumption | decide +kernel) (by decide +kernel) ⟨rfl, rfl, rfl, rfl, rfl, by decide +kernel⟩ ?hw ?hc
  case hw => w_witness2
  case hc => exact HA.law_walk (l := PySem.Challenge.rw_hatsunseen_k69_whole_main_one_counts_for) (e := ⟨"law", HA.top 31, ["script"], ["script", "turn", "stream", "people", "visits", "handed", "due", "look", "told", "at", "found", "way", "person"]⟩) rfl (by kernel_rfl) ⟨rfl, by decide, by decide⟩ (g := 22) rfl (by kernel_rfl) rfl HA.bp22 HA.modOk L

theorem PySem.Challenge.cw_hatsunseen_k69_whole_main_one_counts_for_holds : PySem.Challenge.rw_hatsunseen_k69_whole_main_one_counts_for.Holds := by
  exact holds_of HA.law_ok
