import PyProof.Rows.All
import Wide.All
import OpenK.AllK
import Wide.FinOn
import HandS.ForMost
import HandS.TupAny
import HandS.TupLe
import HandS.Deep
import HandS.IsInst
import HandS.Conv
import HandS.Flow
import HandS.TupLen
import HandS.WordsDict
import HandS.Style
import HandS.Strs
import HandS.SetFor
import HandS.Zip
import HandS.RevTup
import KE.SortData
import PySem.Challenge.RW_amendwarrant_k28_what_held_and_what_was
set_option Elab.async false
set_option linter.all false
set_option maxRecDepth 100000
set_option maxHeartbeats 0
namespace L3
open PySem PySem.Spec PyProof.Rows L2

/-! ### plain data -/
inductive D where
  | non | bl (b : Bool) | int (i : Int) | str (x : Str)
  | tup (xs : List D) | lst (xs : List D)
  /-- a list that is read only (the script) -/
  | rol (xs : List D)
  | dK (kvs : List (Key × D)) | dT (kvs : List (List Key × D))
  | w
  deriving Inhabited

abbrev Ro := List (Option D)
abbrev M := StateT Nat Option

theorem M.bind_some {α β : Type} {m : M α} {k : α → M β} {n : Nat} {r : β × Nat} : (m >>= k) n = some r ↔ ∃ a n1, m n = some (a, n1) ∧ k a n1 = some r := by
  show (Option.bind (m n) fun p => k p.1 p.2) = some r ↔ _
  cases h : m n with
  | none => simp
  | some p =>
    obtain ⟨a, n1⟩ := p
    constructor
    · intro h; exact ⟨a, n1, rfl, h⟩
    · rintro ⟨a', n', e, h⟩; cases e; exact h
theorem M.pure_some {α : Type} {a : α} {n : Nat} {r : α × Nat} : (pure a : M α) n = some r ↔ r = (a, n) := by
  show some (a, n) = some r ↔ _
  exact ⟨fun h => (Option.some.inj h).symm, fun h => by rw [h]⟩
def lo {α : Type} (o : Option α) : M α := fun n => o.map fun a => (a, n)
theorem lo_some {α : Type} {o : Option α} {n : Nat} {r : α × Nat} : lo o n = some r ↔ ∃ a, o = some a ∧ r = (a, n) := by
  unfold lo
  cases o with
  | none => simp
  | some a => simp [eq_comm]
@[simp] theorem lo_pure {α : Type} (a : α) : lo (some a) = pure a := rfl
def fail {α : Type} : M α := fun _ => none

/-! ### where the law's world stands -/
structure Wd where
  aw : Addr
  ad : Addr
  dr : List Int
def kAt : Key := .inr "at"
def kDr : Key := .inr "draws"
def wst (W : Wd) (n : Nat) : HO := .dK [(kDr, .ref W.ad), (kAt, .int n)]
def notW : Option Wd → Addr → Prop
  | none, _ => True
  | some W, a => a ≠ W.aw
def WOk (W : Option Wd) (H F : Hp) (n : Nat) : Prop := match W with
  | none => True
  | some W => H W.aw = some (wst W n) ∧ F W.aw = none ∧ F W.ad = some (.lst (W.dr.map V.int))

def strOk (x : Str) : Bool := x.cps.all (· < 0x110000)

def keyOk : Key → Bool
  | .inl _ => true
  | .inr x => strOk x
def keysOk (kds : List (Key × D)) : Bool := kds.all fun p => keyOk p.1
def keysOkT (kds : List (List Key × D)) : Bool := kds.all fun p => p.1.all keyOk

/-! ### a value stands for data -/
section
variable (K : PySem.W.Frag) (W : Option Wd) (F : Hp)
mutual
inductive Rep : V → D → Prop
  | non : Rep .non .non
  | bl (b : Bool) : Rep (.bl b) (.bl b)
  | int (i : Int) : Rep (.int i) (.int i)
  | str (x : Str) : strOk x = true → Rep (.str x) (.str x)
  | tup {a : Addr} {vs : List V} {ds : List D} : F a = some (.tup vs) → Reps vs ds → Rep (.ref a) (.tup ds)
  | lst {a : Addr} {vs : List V} {ds : List D} : F a = some (.lst vs) → Reps vs ds → Rep (.ref a) (.lst ds)
  | rol {a : Addr} {vs : List V} {ds : List D} : SqL K F a vs → Reps vs ds → Rep (.ref a) (.rol ds)
  | dK {a : Addr} {kvs : List (Key × V)} {kds : List (Key × D)} : F a = some (.dK kvs) → keysOk kds = true → kvs.map Prod.fst = kds.map Prod.fst → Reps (kvs.map Prod.snd) (kds.map Prod.snd) → Rep (.ref a) (.dK kds)
  | dT {a : Addr} {kvs : List (List Key × V)} {kds : List (List Key × D)} : F a = some (.dT kvs) → keysOkT kds = true → kvs.map Prod.fst = kds.map Prod.fst → Reps (kvs.map Prod.snd) (kds.map Prod.snd) → Rep (.ref a) (.dT kds)
  | w {W0 : Wd} : W = some W0 → Rep (.ref W0.aw) .w
inductive Reps : List V → List D → Prop
  | nil : Reps [] []
  | cons {v : V} {vs : List V} {d : D} {ds : List D} : Rep v d → Reps vs ds → Reps (v :: vs) (d :: ds)
end
/-- an object that may change stands for data -/
inductive HRep : HO → D → Prop
  | lst {vs : List V} {ds : List D} : Reps K W F vs ds → HRep (.lst vs) (.lst ds)
  | dK {kvs : List (Key × V)} {kds : List (Key × D)} : keysOk kds = true → kvs.map Prod.fst = kds.map Prod.fst → Reps K W F (kvs.map Prod.snd) (kds.map Prod.snd) → HRep (.dK kvs) (.dK kds)
  | dT {kvs : List (List Key × V)} {kds : List (List Key × D)} : keysOkT kds = true → kvs.map Prod.fst = kds.map Prod.fst → Reps K W F (kvs.map Prod.snd) (kds.map Prod.snd) → HRep (.dT kvs) (.dT kds)
end

section
variable {K : PySem.W.Frag} {W : Option Wd} {F F' H H' : Hp}
mutual
theorem Rep.same (s : Same F F') : ∀ {v : V} {d : D}, Rep K W F v d → Rep K W F' v d
  | _, _, .non => .non
  | _, _, .bl b => .bl b
  | _, _, .int i => .int i
  | _, _, .str x h => .str x h
  | _, _, .tup h r => .tup (s _ _ h) (Reps.same s r)
  | _, _, .lst h r => .lst (s _ _ h) (Reps.same s r)
  | _, _, .rol h r => .rol (s.seq h) (Reps.same s r)
  | _, _, .dK h o e r => .dK (s _ _ h) o e (Reps.same s r)
  | _, _, .dT h o e r => .dT (s _ _ h) o e (Reps.same s r)
  | _, _, .w e => .w e
theorem Reps.same (s : Same F F') : ∀ {vs : List V} {ds : List D}, Reps K W F vs ds → Reps K W F' vs ds
  | _, _, .nil => .nil
  | _, _, .cons h r => .cons (Rep.same s h) (Reps.same s r)
end
theorem Reps.length : ∀ {vs : List V} {ds : List D}, Reps K W F vs ds → vs.length = ds.length
  | _, _, .nil => rfl
  | _, _, .cons _ r => congrArg (· + 1) r.length
theorem Reps.get : ∀ {vs : List V} {ds : List D} {i : Nat} {d : D}, Reps K W F vs ds → ds[i]? = some d → ∃ v, vs[i]? = some v ∧ Rep K W F v d
  | _, _, _, _, .nil, h => by simp at h
  | _, _, 0, _, .cons h _, e => by simp at e; subst e; exact ⟨_, rfl, h⟩
  | _, _, i + 1, _, .cons _ r, e => by
    obtain ⟨v, h1, h2⟩ := Reps.get (i := i) r (by simpa using e)
    exact ⟨v, by simpa using h1, h2⟩
theorem Reps.getV : ∀ {vs : List V} {ds : List D} {i : Nat} {v : V}, Reps K W F vs ds → vs[i]? = some v → ∃ d, ds[i]? = some d ∧ Rep K W F v d
  | _, _, _, _, .nil, h => by simp at h
  | _, _, 0, _, .cons h _, e => by simp at e; subst e; exact ⟨_, rfl, h⟩
  | _, _, i + 1, _, .cons _ r, e => by
    obtain ⟨v, h1, h2⟩ := Reps.getV (i := i) r (by simpa using e)
    exact ⟨v, by simpa using h1, h2⟩
theorem Reps.append : ∀ {vs us : List V} {ds es : List D}, Reps K W F vs ds → Reps K W F us es → Reps K W F (vs ++ us) (ds ++ es)
  | _, _, _, _, .nil, h => h
  | _, _, _, _, .cons h r, q => .cons h (r.append q)
theorem Reps.take (n : Nat) : ∀ {vs : List V} {ds : List D}, Reps K W F vs ds → Reps K W F (vs.take n) (ds.take n) := by
  induction n with
  | zero => intro vs ds _; simp; exact .nil
  | succ n ih =>
    intro vs ds h
    cases h with
    | nil => exact .nil
    | cons h r => exact .cons h (ih r)
theorem Reps.drop (n : Nat) : ∀ {vs : List V} {ds : List D}, Reps K W F vs ds → Reps K W F (vs.drop n) (ds.drop n) := by
  induction n with
  | zero => intro vs ds h; simpa using h
  | succ n ih =>
    intro vs ds h
    cases h with
    | nil => exact .nil
    | cons h r => exact ih r
theorem Reps.set (i : Nat) {v : V} {d : D} (q : Rep K W F v d) : ∀ {vs : List V} {ds : List D}, Reps K W F vs ds → Reps K W F (vs.set i v) (ds.set i d) := by
  induction i with
  | zero => intro vs ds h; cases h with
    | nil => exact .nil
    | cons h r => exact .cons q r
  | succ i ih => intro vs ds h; cases h with
    | nil => exact .nil
    | cons h r => exact .cons h (ih r)
theorem Reps.one {v : V} {d : D} (h : Rep K W F v d) : Reps K W F [v] [d] := .cons h .nil
theorem Reps.eraseIdx (i : Nat) : ∀ {vs : List V} {ds : List D}, Reps K W F vs ds → Reps K W F (vs.eraseIdx i) (ds.eraseIdx i) := by
  induction i with
  | zero => intro vs ds h; cases h with
    | nil => exact .nil
    | cons h r => exact r
  | succ i ih => intro vs ds h; cases h with
    | nil => exact .nil
    | cons h r => exact .cons h (ih r)
theorem HRep.same (s : Same F F') {o : HO} {d : D} (h : HRep K W F o d) : HRep K W F' o d := by
  cases h with
  | lst r => exact .lst (r.same s)
  | dK o e r => exact .dK o e (r.same s)
  | dT o e r => exact .dT o e (r.same s)
theorem HRep.mut {o : HO} {d : D} (h : HRep K W F o d) : Mut (some o) := by cases h <;> trivial
theorem HRep.rep {a : Addr} {o : HO} {d : D} (h : HRep K W F o d) (e : F a = some o) : Rep K W F (.ref a) d := by
  cases h with
  | lst r => exact .lst e r
  | dK o q r => exact .dK e o q r
  | dT o q r => exact .dT e o q r
theorem Same.upd {H : Hp} {a : Addr} {o : HO} (h : H a = none) : Same H (upd H a o) := fun b x e => by
  rw [upd_ne (ne_of_none e h)]; exact e
end

/-! ### the frozen part and the locks -/
abbrev Lk := List (Addr × Obj × HO)
def IsDk : HO → Prop
  | .dK _ => True
  | .dT _ => True
  | _ => False
theorem IsDk.mut {u : HO} (h : IsDk u) : Mut (some u) := by cases u <;> first | trivial | exact h.elim
structure FOk (lk : Lk) (F H : Hp) : Prop where
  st : ∀ a u, F a = some u → H a = some u ∨ ∃ ob, (a, ob, u) ∈ lk
  lk : ∀ a ob u, (a, ob, u) ∈ lk → H a = some (.frz ob u) ∧ IsDk u ∧ F a = some u

/-- the heap grew: all that stood stands, the frozen part grew -/
structure Ext (W : Option Wd) (lk : Lk) (H F : Hp) (n : Nat) (H' F' : Hp) (n' : Nat) : Prop where
  f : Same F F'
  new : ∀ a o, F' a = some o → F a = some o ∨ H a = none ∨ ∃ xs, H a = some (.tup xs)
  h : ∀ a o, H a = some o → notW W a → H' a = some o
  fz : FOk lk F' H'
  wd : WOk W H' F' n'

section
variable {K : PySem.W.Frag} {W : Option Wd} {lk : Lk} {F F' F'' H H' H'' : Hp} {n n' n'' : Nat}
theorem Ext.refl (fz : FOk lk F H) (wd : WOk W H F n) : Ext W lk H F n H F n := ⟨fun _ _ h => h, fun _ _ h => .inl h, fun _ _ h _ => h, fz, wd⟩
theorem WOk.fnone {W0 : Wd} (h : WOk (some W0) H F n) : F W0.aw = none := h.2.1
theorem Ext.trans (hw : WOk W H F n) (e : Ext W lk H F n H' F' n') (e2 : Ext W lk H' F' n' H'' F'' n'') : Ext W lk H F n H'' F'' n'' := by
  have nw : ∀ a xs, H a = some (.tup xs) → notW W a := fun a xs h => by
    cases W with
    | none => trivial
    | some W0 =>
      intro z
      subst z
      rw [hw.1] at h
      cases h
  refine ⟨e.f.trans e2.f, fun a o h => ?_, fun a o h nw => e2.h a o (e.h a o h nw) nw, e2.fz, e2.wd⟩
  rcases e2.new a o h with h | h | ⟨xs, h⟩
  · exact e.new a o h
  · right
    cases q : H a with
    | none => exact .inl rfl
    | some u =>
      by_cases nn : notW W a
      · rw [e.h a u q nn] at h; cases h
      · cases W with
        | none => exact absurd trivial nn
        | some W0 =>
          have : a = W0.aw := Classical.not_not.mp nn
          subst this
          rw [e.wd.1] at h; cases h
  · right
    cases q : H a with
    | none => exact .inl rfl
    | some u =>
      by_cases nn : notW W a
      · rw [e.h a u q nn] at h; exact .inr ⟨xs, h⟩
      · cases W with
        | none => exact absurd trivial nn
        | some W0 =>
          have : a = W0.aw := Classical.not_not.mp nn
          subst this
          rw [e.wd.1] at h; cases h
end

/-! ### the state: slots, heap, frozen part -/
/-- an address that is owned: changed by no one else -/
def OwnAt (K : PySem.W.Frag) (W : Option Wd) (H F : Hp) (a : Addr) (d : D) : Prop := F a = none ∧ notW W a ∧ ∃ o, H a = some o ∧ HRep K W F o d

structure SR (K : PySem.W.Frag) (W : Option Wd) (ow : List Nat) (H0 F0 : Hp) (lk : Lk) (σ : L2.St) (H F : Hp) (ρ : Ro) (n : Nat) : Prop where
  len : ρ.length = σ.length
  env : ∀ i d, ρ[i]? = some (some d) → i ∉ ow → ∃ v, σ[i]? = some (some v) ∧ Rep K W F v d
  own : ∀ i d, ρ[i]? = some (some d) → i ∈ ow → ∃ a, σ[i]? = some (some (.ref a)) ∧ OwnAt K W H F a d ∧ H0 a = none
  sep : ∀ i j a d e, i ∈ ow → j ∈ ow → ρ[i]? = some (some d) → ρ[j]? = some (some e) → σ[i]? = some (some (.ref a)) → σ[j]? = some (some (.ref a)) → i = j
  f0 : Same F0 F
  new : ∀ a o, F a = some o → F0 a = some o ∨ H0 a = none ∨ ∃ xs, H0 a = some (.tup xs)
  h0 : ∀ a o, H0 a = some o → notW W a → H a = some o ∨ ∃ ob, (a, ob, o) ∈ lk
  fz : FOk lk F H
  wd : WOk W H F n

section
variable {K : PySem.W.Frag} {W : Option Wd} {ow : List Nat} {H0 F0 : Hp} {lk : Lk} {σ : L2.St} {F F' H H' : Hp} {ρ : Ro} {n n' : Nat} {v : V} {d : D} {a : Addr}
theorem OwnAt.ext (o : OwnAt K W H F a d) (e : Ext W lk H F n H' F' n') : OwnAt K W H' F' a d := by
  obtain ⟨h1, hw, o, h2, r⟩ := o
  refine ⟨?_, hw, o, e.h a o h2 hw, r.same e.f⟩
  cases q : F' a with
  | none => rfl
  | some u =>
    rcases e.new a u q with z | z | ⟨xs, z⟩
    · rw [h1] at z; cases z
    · rw [h2] at z; cases z
    · rw [h2] at z; cases z; cases r
theorem SR.ext (s : SR K W ow H0 F0 lk σ H F ρ n) (e : Ext W lk H F n H' F' n') : SR K W ow H0 F0 lk σ H' F' ρ n' where
  len := s.len
  env := fun i d h hi => let ⟨v, h1, h2⟩ := s.env i d h hi; ⟨v, h1, h2.same e.f⟩
  own := fun i d h hi => let ⟨a, h1, h2, h3⟩ := s.own i d h hi; ⟨a, h1, h2.ext e, h3⟩
  sep := s.sep
  f0 := s.f0.trans e.f
  new := fun a o h => by
    have nw : ∀ xs, H a = some (.tup xs) → notW W a := fun xs h => by
      cases W with
      | none => trivial
      | some W0 => intro z; subst z; rw [s.wd.1] at h; cases h
    rcases e.new a o h with h | h | ⟨xs, h⟩
    · exact s.new a o h
    · right
      cases q : H0 a with
      | none => exact .inl rfl
      | some u =>
        by_cases nn : notW W a
        · rcases s.h0 a u q nn with z | ⟨ob, z⟩
          · rw [h] at z; cases z
          · rw [(s.fz.lk _ _ _ z).1] at h; cases h
        · cases W with
          | none => exact absurd trivial nn
          | some W0 =>
            have : a = W0.aw := Classical.not_not.mp nn
            subst this; rw [s.wd.1] at h; cases h
    · right
      cases q : H0 a with
      | none => exact .inl rfl
      | some u =>
        rcases s.h0 a u q (nw xs h) with z | ⟨ob, z⟩
        · rw [h] at z; exact .inr ⟨xs, z.symm⟩
        · rw [(s.fz.lk _ _ _ z).1] at h; cases h
  h0 := fun a o h nw => by
    rcases s.h0 a o h nw with z | z
    · exact .inl (e.h a o z nw)
    · exact .inr z
  fz := e.fz
  wd := e.wd
theorem SR.refl (s : SR K W ow H0 F0 lk σ H F ρ n) : Ext W lk H F n H F n := .refl s.fz s.wd
end

/-! ### results -/
inductive Kd | fz | bw | fr
  deriving DecidableEq
/-- v stands for d: frozen; or borrowed; or new and owned by no one yet -/
def Res (K : PySem.W.Frag) (W : Option Wd) (κ : Kd) (H H' F' : Hp) (v : V) (d : D) : Prop := match κ with
  | .fz => Rep K W F' v d
  | .bw => Rep K W F' v d ∨ ∃ a, v = .ref a ∧ OwnAt K W H' F' a d
  | .fr => ∃ a, v = .ref a ∧ OwnAt K W H' F' a d ∧ H a = none
abbrev RepB (K : PySem.W.Frag) (W : Option Wd) (H' F' : Hp) (v : V) (d : D) : Prop := Rep K W F' v d ∨ ∃ a, v = .ref a ∧ OwnAt K W H' F' a d

def tV (K : PySem.W.Frag) (W : Option Wd) (ow : List Nat) (κ : Kd) (f : Ro → M D) : TE := fun σ H Q =>
  ∃ H0 F0 lk F ρ n d n', SR K W ow H0 F0 lk σ H F ρ n ∧ f ρ n = some (d, n') ∧ ∀ v H' F', Ext W lk H F n H' F' n' → Res K W κ H H' F' v d → Q v H'
def tT (K : PySem.W.Frag) (W : Option Wd) (ow : List Nat) (f : Ro → M Bool) : TT := fun σ H Q =>
  ∃ H0 F0 lk F ρ n b n', SR K W ow H0 F0 lk σ H F ρ n ∧ f ρ n = some (b, n') ∧ ∀ H' F', Ext W lk H F n H' F' n' → Q b H'
abbrev VE (X : Cx) (W : Option Wd) (ow : List Nat) (κ : Kd) (e : Expr) (f : Ro → M D) : Prop := PE X e (tV X.K W ow κ f)
abbrev VT (X : Cx) (W : Option Wd) (ow : List Nat) (e : Expr) (f : Ro → M Bool) : Prop := PT X e (tT X.K W ow f)

theorem PE.weak {X : Cx} {e : Expr} {t t' : TE} (h : PE X e t) (i : ∀ σ H Q, t' σ H Q → t σ H Q) : PE X e t' := ⟨fun pins s σ H Q I q => h.run pins s σ H Q I (i σ H Q q)⟩
theorem PT.weak {X : Cx} {e : Expr} {t t' : TT} (h : PT X e t) (i : ∀ σ H Q, t' σ H Q → t σ H Q) : PT X e t' := ⟨fun pins s σ H Q I q => h.run pins s σ H Q I (i σ H Q q)⟩
theorem PA.weak {X : Cx} {e : List Expr} {t t' : TA} (h : PA X e t) (i : ∀ σ H Q, t' σ H Q → t σ H Q) : PA X e t' := ⟨fun pos pins s σ H Q I q => h.run pos pins s σ H Q I (i σ H Q q)⟩
theorem PS.weak {X : Cx} {e : Stmt} {t t' : TS} (h : PS X e t) (i : ∀ D σ H, t' D σ H → t D σ H) : PS X e t' := ⟨fun pins s σ H D I q => h.run pins s σ H D I (i D σ H q)⟩
theorem PSs.weak {X : Cx} {e : List Stmt} {t t' : TS} (h : PSs X e t) (i : ∀ D σ H, t' D σ H → t D σ H) : PSs X e t' := ⟨fun pins s σ H D I q => h.run pins s σ H D I (i D σ H q)⟩
theorem PE.or {X : Cx} {e : Expr} {t t' : TE} (h : PE X e t) (h' : PE X e t') : PE X e (fun σ H Q => t σ H Q ∨ t' σ H Q) := ⟨fun pins s σ H Q I q => q.elim (h.run pins s σ H Q I) (h'.run pins s σ H Q I)⟩
theorem PS.or {X : Cx} {e : Stmt} {t t' : TS} (h : PS X e t) (h' : PS X e t') : PS X e (fun D σ H => t D σ H ∨ t' D σ H) := ⟨fun pins s σ H Q I q => q.elim (h.run pins s σ H Q I) (h'.run pins s σ H Q I)⟩
theorem PI.or {X : Cx} {tg e : Expr} {t t' : TI} (h : PI X tg e t) (h' : PI X tg e t') : PI X tg e (fun σ H R => t σ H R ∨ t' σ H R) := ⟨fun pins s σ H Q I q => q.elim (h.run pins s σ H Q I) (h'.run pins s σ H Q I)⟩

section
variable {X : Cx} {W : Option Wd} {ow : List Nat} {e : Expr} {f : Ro → M D}
theorem Res.bw_of_fr {K : PySem.W.Frag} {H H' F' : Hp} {v : V} {d : D} (h : Res K W .fr H H' F' v d) : Res K W .bw H H' F' v d := let ⟨a, e, o, _⟩ := h; .inr ⟨a, e, o⟩
theorem VE.bw (h : VE X W ow .fz e f) : VE X W ow .bw e f := PE.weak h fun _ _ _ ⟨H0, F0, lk, F, ρ, n, d, n', s, hf, q⟩ => ⟨H0, F0, lk, F, ρ, n, d, n', s, hf, fun v H' F' x r => q v H' F' x (.inl r)⟩
theorem VE.fr_bw (h : VE X W ow .fr e f) : VE X W ow .bw e f := PE.weak h fun _ _ _ ⟨H0, F0, lk, F, ρ, n, d, n', s, hf, q⟩ => ⟨H0, F0, lk, F, ρ, n, d, n', s, hf, fun v H' F' x r => q v H' F' x (Res.bw_of_fr r)⟩
/-- an owned address is frozen -/
theorem freeze {K : PySem.W.Frag} {lk : Lk} {H F : Hp} {n : Nat} {a : Addr} {d : D} (fz : FOk lk F H) (wd : WOk W H F n) (o : OwnAt K W H F a d) :
    ∃ F', Same F F' ∧ (∀ b u, F' b = some u → F b = some u ∨ (b = a ∧ H a = some u)) ∧ FOk lk F' H ∧ WOk W H F' n ∧ Rep K W F' (.ref a) d := by
  obtain ⟨h1, hw, u, h2, r⟩ := o
  have s := Same.upd (o := u) h1
  refine ⟨upd F a u, s, fun b x hb => ?_, ⟨fun b x hb => ?_, fun b ob x hb => ?_⟩, ?_, (r.same s).rep upd_same⟩
  · by_cases e : b = a
    · subst e; rw [upd_same] at hb; cases hb; exact .inr ⟨rfl, h2⟩
    · rw [upd_ne e] at hb; exact .inl hb
  · by_cases e : b = a
    · subst e; rw [upd_same] at hb; cases hb; exact .inl h2
    · rw [upd_ne e] at hb; exact fz.st b x hb
  · obtain ⟨z1, z2, z3⟩ := fz.lk b ob x hb
    exact ⟨z1, z2, s _ _ z3⟩
  · cases W with
    | none => trivial
    | some W0 =>
      obtain ⟨w1, w2, w3⟩ := wd
      refine ⟨w1, ?_, s _ _ w3⟩
      rw [upd_ne (show W0.aw ≠ a from fun z => hw z.symm)]; exact w2
/-- a new one may be frozen -/
theorem VE.fz (h : VE X W ow .fr e f) : VE X W ow .fz e f := PE.weak h fun _ H _ ⟨H0, F0, lk, F, ρ, n, d, n', s, hf, q⟩ => ⟨H0, F0, lk, F, ρ, n, d, n', s, hf, fun v H' F' x r => by
  obtain ⟨a, rfl, o, hn⟩ := r
  obtain ⟨F2, s2, new, fz2, wd2, r2⟩ := freeze x.fz x.wd o
  refine q _ H' F2 ⟨x.f.trans s2, fun b u hb => ?_, x.h, fz2, wd2⟩ r2
  rcases new b u hb with z | ⟨rfl, z⟩
  · exact x.new b u z
  · exact .inr (.inl hn)⟩
end
end L3
namespace L3
open PySem PySem.Spec PyProof.Rows L2

/-! ### results carried on -/
section
variable {K : PySem.W.Frag} {W : Option Wd} {κ : Kd} {lk : Lk} {F F1 F2 H H1 H2 : Hp} {n n1 n2 : Nat} {v : V} {d : D}
theorem Res.lift (hw : WOk W H F n) (e : Ext W lk H F n H1 F1 n1) (r : Res K W κ H1 H2 F2 v d) : Res K W κ H H2 F2 v d := by
  cases κ with
  | fz => exact r
  | bw => exact r
  | fr =>
    obtain ⟨a, rfl, o, hn⟩ := r
    refine ⟨a, rfl, o, ?_⟩
    cases q : H a with
    | none => rfl
    | some u => rw [e.h a u q o.2.1] at hn; cases hn
theorem RepB.ext (r : RepB K W H F v d) (e : Ext W lk H F n H1 F1 n1) : RepB K W H1 F1 v d := by
  rcases r with r | ⟨a, rfl, o⟩
  · exact .inl (r.same e.f)
  · exact .inr ⟨a, rfl, o.ext e⟩
theorem Res.repB (r : Res K W κ H H1 F1 v d) : RepB K W H1 F1 v d := by
  cases κ with
  | fz => exact .inl r
  | bw => exact r
  | fr => obtain ⟨a, rfl, o, _⟩ := r; exact .inr ⟨a, rfl, o⟩
/-- a scalar stands for itself, whatever is asked but newness -/
theorem Rep.res (h : Rep K W F2 v d) (hk : κ ≠ .fr) : Res K W κ H H2 F2 v d := by
  cases κ with
  | fz => exact h
  | bw => exact .inl h
  | fr => exact absurd rfl hk
/-- a new object, tracked -/
theorem Ext.new_obj {a : Addr} {o : HO} (fz : FOk lk F H) (wd : WOk W H F n) (hn : H a = none) : Ext W lk H F n (upd H a o) F n := by
  have s := Same.upd (o := o) hn
  refine ⟨fun _ _ h => h, fun _ _ h => .inl h, fun b u h _ => s b u h, ⟨fun b u h => ?_, fun b ob u h => ?_⟩, ?_⟩
  · rcases fz.st b u h with z | z
    · exact .inl (s _ _ z)
    · exact .inr z
  · obtain ⟨z1, z2, z3⟩ := fz.lk b ob u h
    exact ⟨s _ _ z1, z2, z3⟩
  · cases W with
    | none => trivial
    | some W0 => exact ⟨s _ _ wd.1, wd.2.1, wd.2.2⟩
theorem FOk.none (fz : FOk lk F H) {a : Addr} (hn : H a = none) : F a = none := by
  cases q : F a with
  | none => rfl
  | some u =>
    rcases fz.st a u q with z | ⟨ob, z⟩
    · rw [hn] at z; cases z
    · rw [(fz.lk _ _ _ z).1] at hn; cases hn
theorem notW_of_none (wd : WOk W H F n) {a : Addr} (hn : H a = none) : notW W a := by
  cases W with
  | none => trivial
  | some W0 => intro z; subst z; rw [wd.1] at hn; cases hn
/-- .. and frozen -/
theorem Ext.new_fz {a : Addr} {o : HO} (fz : FOk lk F H) (wd : WOk W H F n) (hn : H a = none) : Ext W lk H F n (upd H a o) (upd F a o) n := by
  have s := Same.upd (o := o) hn
  have fn := fz.none hn
  have sf := Same.upd (o := o) fn
  refine ⟨sf, fun b u h => ?_, fun b u h _ => s b u h, ⟨fun b u h => ?_, fun b ob u h => ?_⟩, ?_⟩
  · by_cases e : b = a
    · subst e; exact .inr (.inl hn)
    · rw [upd_ne e] at h; exact .inl h
  · by_cases e : b = a
    · subst e; rw [upd_same] at h ⊢; exact .inl h
    · rw [upd_ne e] at h ⊢; exact fz.st b u h
  · obtain ⟨z1, z2, z3⟩ := fz.lk b ob u h
    exact ⟨s _ _ z1, z2, sf _ _ z3⟩
  · cases W with
    | none => trivial
    | some W0 =>
      have ne : W0.aw ≠ a := fun z => by subst z; rw [wd.1] at hn; cases hn
      exact ⟨s _ _ wd.1, by rw [upd_ne ne]; exact wd.2.1, sf _ _ wd.2.2⟩
theorem own_new {a : Addr} {o : HO} (fz : FOk lk F H) (wd : WOk W H F n) (hn : H a = none) (r : HRep K W F o d) : OwnAt K W (upd H a o) F a d :=
  ⟨fz.none hn, notW_of_none wd hn, o, upd_same, r⟩
theorem res_new {a : Addr} {o : HO} (fz : FOk lk F H) (wd : WOk W H F n) (hn : H a = none) (r : HRep K W F o d) : Res K W .fr H (upd H a o) F (.ref a) d := ⟨a, rfl, own_new fz wd hn r, hn⟩
theorem rep_newT {a : Addr} {vs : List V} {ds : List D} (hn : F a = none) (r : Reps K W F vs ds) : Rep K W (upd F a (.tup vs)) (.ref a) (.tup ds) := .tup upd_same (r.same (Same.upd hn))
end

/-! ### what is read of an object -/
section
variable {K : PySem.W.Frag} {W : Option Wd} {lk : Lk} {F H : Hp} {v : V} {ds : List D} {a : Addr} {vs : List V}
theorem FOk.tup (fz : FOk lk F H) (h : F a = some (.tup vs)) : H a = some (.tup vs) := by
  rcases fz.st a _ h with z | ⟨ob, z⟩
  · exact z
  · exact (fz.lk _ _ _ z).2.1.elim
theorem FOk.rd {u : HO} (fz : FOk lk F H) (h : F a = some u) : Rd H a u := by
  rcases fz.st a _ h with z | ⟨ob, z⟩
  · exact .inl z
  · exact .inr ⟨ob, (fz.lk _ _ _ z).1⟩
theorem FOk.seq (fz : FOk lk F H) (h : SqL K F a vs) : SqL K H a vs := by
  rcases h with (h | ⟨o, h⟩) | h
  · exact .inl (fz.rd h)
  · rcases fz.st a _ h with z | ⟨ob, z⟩
    · exact .inl (.inr ⟨o, z⟩)
    · exact (fz.lk _ _ _ z).2.1.elim
  · exact .inr h
theorem FOk.lst (fz : FOk lk F H) (h : F a = some (.lst vs)) : H a = some (.lst vs) := by
  rcases fz.st a _ h with z | ⟨ob, z⟩
  · exact z
  · exact (fz.lk _ _ _ z).2.1.elim
theorem RepB.lst (fz : FOk lk F H) (r : RepB K W H F v (.lst ds)) : ∃ a vs, v = .ref a ∧ H a = some (.lst vs) ∧ Reps K W F vs ds := by
  rcases r with r | ⟨a, rfl, _, _, o, ho, hr⟩
  · cases r with
    | lst h q => exact ⟨_, _, rfl, fz.lst h, q⟩
  · cases hr with
    | lst q => exact ⟨a, _, rfl, ho, q⟩
theorem RepB.rol (fz : FOk lk F H) (r : RepB K W H F v (.rol ds)) : ∃ a vs, v = .ref a ∧ SqL K H a vs ∧ Reps K W F vs ds := by
  rcases r with r | ⟨a, rfl, _, _, o, ho, hr⟩
  · cases r with
    | rol h q => exact ⟨_, _, rfl, fz.seq h, q⟩
  · cases hr
theorem RepB.tup (fz : FOk lk F H) (r : RepB K W H F v (.tup ds)) : ∃ a vs, v = .ref a ∧ F a = some (.tup vs) ∧ H a = some (.tup vs) ∧ Reps K W F vs ds := by
  rcases r with r | ⟨a, rfl, _, _, o, ho, hr⟩
  · cases r with
    | tup h q => exact ⟨_, _, rfl, h, fz.tup h, q⟩
  · cases hr
theorem RepB.dK {kds : List (Key × D)} (fz : FOk lk F H) (r : RepB K W H F v (.dK kds)) : ∃ a kvs, v = .ref a ∧ Rd H a (.dK kvs) ∧ kvs.map Prod.fst = kds.map Prod.fst ∧ Reps K W F (kvs.map Prod.snd) (kds.map Prod.snd) := by
  rcases r with r | ⟨a, rfl, _, _, o, ho, hr⟩
  · cases r with
    | dK h _ e q => exact ⟨_, _, rfl, fz.rd h, e, q⟩
  · cases hr with
    | dK _ e q => exact ⟨a, _, rfl, .inl ho, e, q⟩
theorem RepB.dT {kds : List (List Key × D)} (fz : FOk lk F H) (r : RepB K W H F v (.dT kds)) : ∃ a kvs, v = .ref a ∧ Rd H a (.dT kvs) ∧ kvs.map Prod.fst = kds.map Prod.fst ∧ Reps K W F (kvs.map Prod.snd) (kds.map Prod.snd) := by
  rcases r with r | ⟨a, rfl, _, _, o, ho, hr⟩
  · cases r with
    | dT h _ e q => exact ⟨_, _, rfl, fz.rd h, e, q⟩
  · cases hr with
    | dT _ e q => exact ⟨a, _, rfl, .inl ho, e, q⟩
theorem RepB.int {i : Int} (r : RepB K W H F v (.int i)) : v = .int i := by
  rcases r with r | ⟨a, rfl, _, _, o, ho, hr⟩
  · cases r; rfl
  · cases hr
theorem RepB.bl {i : Bool} (r : RepB K W H F v (.bl i)) : v = .bl i := by
  rcases r with r | ⟨a, rfl, _, _, o, ho, hr⟩
  · cases r; rfl
  · cases hr
theorem RepB.str {i : Str} (r : RepB K W H F v (.str i)) : v = .str i ∧ strOk i = true := by
  rcases r with r | ⟨a, rfl, _, _, o, ho, hr⟩
  · cases r with
    | str _ h => exact ⟨rfl, h⟩
  · cases hr
theorem RepB.non (r : RepB K W H F v .non) : v = .non := by
  rcases r with r | ⟨a, rfl, _, _, o, ho, hr⟩
  · cases r; rfl
  · cases hr
end

/-! ### names, constants -/
def nameE (i : Nat) : Ro → M D := fun ρ => match ρ[i]? with | some (some d) => pure d | _ => fail
theorem nameE_some {i : Nat} {ρ : Ro} {n : Nat} {r : D × Nat} : nameE i ρ n = some r ↔ ρ[i]? = some (some r.1) ∧ r.2 = n := by
  obtain ⟨d, m⟩ := r
  unfold nameE
  rcases h : ρ[i]? with _ | _ | x
  · simp [fail]
  · simp [fail]
  · show (pure x : M D) n = some (d, m) ↔ _
    rw [M.pure_some]
    simp [eq_comm]
def cE (d : D) : Ro → M D := fun _ => pure d

section
variable {X : Cx} {W : Option Wd} {ow : List Nat} {pos : Pos}
theorem V_name (i : Nat) {x : Str} (hi : i ∉ ow) (hN : X.N[i]? = some x := by rfl) (hv : Vis X.env.scope x := by first | exact Or.inl rfl | exact Or.inr (Or.inl rfl) | exact Or.inr (Or.inr rfl)) (hd : (x == ("__debug__" : Str)) = false := by decide)
    (hcd : (x == ("__classdict__" : Str)) = false := by decide) : VE X W ow .fz (.Name x pos) (nameE i) :=
  PE.weak (pv i hN hv hd hcd) fun σ H Q ⟨H0, F0, lk, F, ρ, n, d, n', s, hf, q⟩ => by
    obtain ⟨h1, h2⟩ := nameE_some.mp hf
    simp only at h1 h2
    subst h2
    obtain ⟨v, hv, r⟩ := s.env i d h1 hi
    exact ⟨v, hv, q v H F s.refl r⟩
theorem V_nameB (i : Nat) {x : Str} (hN : X.N[i]? = some x := by rfl) (hv : Vis X.env.scope x := by first | exact Or.inl rfl | exact Or.inr (Or.inl rfl) | exact Or.inr (Or.inr rfl)) (hd : (x == ("__debug__" : Str)) = false := by decide)
    (hcd : (x == ("__classdict__" : Str)) = false := by decide) : VE X W ow .bw (.Name x pos) (nameE i) :=
  PE.weak (pv i hN hv hd hcd) fun σ H Q ⟨H0, F0, lk, F, ρ, n, d, n', s, hf, q⟩ => by
    obtain ⟨h1, h2⟩ := nameE_some.mp hf
    simp only at h1 h2
    subst h2
    by_cases hi : i ∈ ow
    · obtain ⟨a, ha, o, _⟩ := s.own i d h1 hi
      exact ⟨.ref a, ha, q _ H F s.refl (.inr ⟨a, rfl, o⟩)⟩
    · obtain ⟨v, hv, r⟩ := s.env i d h1 hi
      exact ⟨v, hv, q v H F s.refl (.inl r)⟩
theorem V_const {e : Expr} {v : V} {d : D} (h : PE X e (tC v)) (r : ∀ K W F, Rep K W F v d) : VE X W ow .fz e (cE d) :=
  PE.weak h fun σ H Q ⟨H0, F0, lk, F, ρ, n, d', n', s, hf, q⟩ => by
    cases M.pure_some.mp hf
    exact q v H F s.refl (r _ _ _)
theorem V_int {i j} : VE X W ow .fz (.Constant (.int i) j pos) (cE (.int i)) := V_const pe_int fun _ _ _ => .int i
theorem V_bl {b j} : VE X W ow .fz (.Constant (.bool b) j pos) (cE (.bl b)) := V_const pe_bl fun _ _ _ => .bl b
theorem V_non {j} : VE X W ow .fz (.Constant .none j pos) (cE .non) := V_const pe_non fun _ _ _ => .non
theorem V_str {x j} (h : strOk x = true := by rfl) : VE X W ow .fz (.Constant (.str x) j pos) (cE (.str x)) := V_const pe_str fun _ _ _ => .str x h
/-- a text of the module -/
theorem V_globS {x z : Str} {t : Tok} (hg : Gl X x) (hm : X.mg x = some (.str z t)) (h : strOk z = true := by rfl) (hd : (x == ("__debug__" : Str)) = false := by decide) : VE X W ow .fz (.Name x pos) (cE (.str z)) :=
  V_const (v := .str z) (pe_glob hg hm ⟨t, rfl⟩ hd) fun _ _ _ => .str z h
end

/-! ### two operands, one -/
def GR2 (K : PySem.W.Frag) (W : Option Wd) (κ : Kd) (r : R2) (g : D → D → Option D) : Prop := ∀ (lk : Lk) (H F : Hp) (n : Nat) (v u : V) (d e z : D) (Q : VK), FOk lk F H → WOk W H F n → RepB K W H F v d → RepB K W H F u e → g d e = some z →
  (∀ x H' F', Ext W lk H F n H' F' n → Res K W κ H H' F' x z → Q x H') → r v u H Q
def bin (fa fb : Ro → M D) (g : D → D → Option D) : Ro → M D := fun ρ => fa ρ >>= fun x => fb ρ >>= fun y => lo (g x y)
theorem bin_some {fa fb : Ro → M D} {g : D → D → Option D} {ρ : Ro} {n n' : Nat} {d : D} : bin fa fb g ρ n = some (d, n') ↔ ∃ x n1 y, fa ρ n = some (x, n1) ∧ fb ρ n1 = some (y, n') ∧ g x y = some d := by
  unfold bin
  rw [M.bind_some]
  constructor
  · rintro ⟨x, n1, h1, h2⟩
    obtain ⟨y, n2, h3, h4⟩ := M.bind_some.mp h2
    obtain ⟨a, h5, e⟩ := lo_some.mp h4
    cases e
    exact ⟨x, n1, y, h1, h3, h5⟩
  · rintro ⟨x, n1, y, h1, h2, h3⟩
    exact ⟨x, n1, h1, M.bind_some.mpr ⟨y, n', h2, lo_some.mpr ⟨d, h3, rfl⟩⟩⟩
def un (fa : Ro → M D) (g : D → Option D) : Ro → M D := fun ρ => fa ρ >>= fun x => lo (g x)
theorem un_some {fa : Ro → M D} {g : D → Option D} {ρ : Ro} {n n' : Nat} {d : D} : un fa g ρ n = some (d, n') ↔ ∃ x, fa ρ n = some (x, n') ∧ g x = some d := by
  unfold un
  rw [M.bind_some]
  constructor
  · rintro ⟨x, n1, h1, h2⟩
    obtain ⟨a, h3, e⟩ := lo_some.mp h2
    cases e
    exact ⟨x, h1, h3⟩
  · rintro ⟨x, h1, h3⟩
    exact ⟨x, n', h1, lo_some.mpr ⟨d, h3, rfl⟩⟩

section
variable {X : Cx} {W : Option Wd} {ow : List Nat} {pos : Pos} {a b : Expr} {fa fb : Ro → M D} {κ κa κb : Kd}
/-- two operands, as a reading -/
theorem tOp_of {r : R2} {g : D → D → Option D} (hg : GR2 X.K W κ r g) {σ : L2.St} {H : Hp} {Q : VK} (h : tV X.K W ow κ (bin fa fb g) σ H Q) : tOp r (tV X.K W ow κa fa) (tV X.K W ow κb fb) σ H Q := by
  obtain ⟨H0, F0, lk, F, ρ, n, d, n', s, hf, q⟩ := h
  obtain ⟨x, n1, y, h1, h2, h3⟩ := bin_some.mp hf
  refine ⟨H0, F0, lk, F, ρ, n, x, n1, s, h1, fun v H1 F1 e1 r1 => ?_⟩
  have s1 := s.ext e1
  refine ⟨H0, F0, lk, F1, ρ, n1, y, n', s1, h2, fun u H2 F2 e2 r2 => ?_⟩
  refine hg lk H2 F2 n' v u x y d Q e2.fz e2.wd (r1.repB.ext e2) r2.repB h3 fun z H3 F3 e3 r3 => ?_
  have e12 := e1.trans s.wd e2
  exact q z H3 F3 (e12.trans s.wd e3) (r3.lift s.wd e12)
theorem V_bin {op : Operator} {r : R2} {g : D → D → Option D} (ho : OpR X (binaryOp op) r) (hg : GR2 X.K W κ r g) (ha : VE X W ow κa a fa) (hb : VE X W ow κb b fb) : VE X W ow κ (.BinOp a op b pos) (bin fa fb g) :=
  PE.weak (pe_op ho ha hb) fun _ _ _ h => tOp_of hg h
theorem V_cmp {op : CmpOp} {r : R2} {g : D → D → Option D} (ho : OpR X (compareOp op) r) (hg : GR2 X.K W κ r g) (ha : VE X W ow κa a fa) (hb : VE X W ow κb b fb) (hm : behindInMarks op b = false := by first | exact nomark _ | rfl) : VE X W ow κ (.Compare a [op] [b] pos) (bin fa fb g) :=
  PE.weak (pe_cmpR ho ha hb hm) fun _ _ _ h => tOp_of hg h
end
def asB (f : Ro → M D) : Ro → M Bool := fun ρ => f ρ >>= fun x => match x with | .bl b => pure b | _ => fail
theorem asB_some {f : Ro → M D} {ρ : Ro} {n n' : Nat} {b : Bool} : asB f ρ n = some (b, n') ↔ f ρ n = some (.bl b, n') := by
  unfold asB
  rw [M.bind_some]
  constructor
  · rintro ⟨x, n1, h1, h2⟩
    cases x with
    | bl c => cases M.pure_some.mp h2; exact h1
    | _ => exact absurd h2 (by simp [fail])
  · intro h
    exact ⟨.bl b, n', h, M.pure_some.mpr rfl⟩
section
variable {X : Cx} {W : Option Wd} {ow : List Nat} {pos : Pos} {a b : Expr} {fa fb : Ro → M D} {κ κa κb : Kd}
theorem T_cmp {op : CmpOp} {r : R2} {g : D → D → Option D} (ho : OpR X (compareOp op) r) (hg : GR2 X.K W .fz r g) (ha : VE X W ow κa a fa) (hb : VE X W ow κb b fb) (hm : behindInMarks op b = false := by first | exact nomark _ | rfl) : VT X W ow (.Compare a [op] [b] pos) (asB (bin fa fb g)) :=
  PT.weak (pt_cmpR ho ha hb hm) fun σ H Q ⟨H0, F0, lk, F, ρ, n, b, n', s, hf, q⟩ => by
    refine tOp_of hg ⟨H0, F0, lk, F, ρ, n, .bl b, n', s, asB_some.mp hf, fun v H' F' e r => ?_⟩
    cases r
    exact ⟨b, rfl, q H' F' e⟩
/-- a test by a value that is True or False -/
theorem T_val {e : Expr} {f : Ro → M D} (h : VE X W ow κ e f) (he : ∀ whole, isTrue e X.env whole = (do let v ← whole; standAt e.pos; holding [v] (truthy v)) := by intro _; rfl) : VT X W ow e (asB f) :=
  PT.weak (pt_val h he) fun σ H Q ⟨H0, F0, lk, F, ρ, n, b, n', s, hf, q⟩ => by
    refine ⟨H0, F0, lk, F, ρ, n, .bl b, n', s, asB_some.mp hf, fun v H' F' e r => ?_⟩
    exact ⟨b, r.repB.bl, q H' F' e⟩
def notT (t : Ro → M Bool) : Ro → M Bool := fun ρ => t ρ >>= fun b => pure (!b)
theorem T_not {t : Ro → M Bool} (h : VT X W ow a t) : VT X W ow (.UnaryOp .Not a pos) (notT t) :=
  PT.weak (pt_not h) fun σ H Q ⟨H0, F0, lk, F, ρ, n, b, n', s, hf, q⟩ => by
    obtain ⟨c, n1, h1, h2⟩ := M.bind_some.mp hf
    cases M.pure_some.mp h2
    exact ⟨H0, F0, lk, F, ρ, n, c, _, s, h1, q⟩
def andT (t u : Ro → M Bool) : Ro → M Bool := fun ρ => t ρ >>= fun b => if b = true then u ρ else pure false
def orT (t u : Ro → M Bool) : Ro → M Bool := fun ρ => t ρ >>= fun b => if b = true then pure true else u ρ
abbrev VW (X : Cx) (W : Option Wd) (ow : List Nat) (e : Expr) (f : Ro → M Bool) : Prop := PW X e (tT X.K W ow f)
theorem PW.weak {X : Cx} {e : Expr} {t t' : TT} (h : PW X e t) (i : ∀ σ H Q, t' σ H Q → t σ H Q) : PW X e t' := ⟨fun w pins s σ H Q I q => h.run w pins s σ H Q I (i σ H Q q)⟩
theorem W_and1 {t : Ro → M Bool} (h : VT X W ow a t) : VW X W ow (.BoolOp .And [a] pos) t := pw_and1 h
theorem W_or1 {t : Ro → M Bool} (h : VT X W ow a t) : VW X W ow (.BoolOp .Or [a] pos) t := pw_or1 h
theorem W_and {rest : List Expr} {t u : Ro → M Bool} (h : VT X W ow a t) (h2 : VW X W ow (.BoolOp .And (b :: rest) pos) u) : VW X W ow (.BoolOp .And (a :: b :: rest) pos) (andT t u) :=
  PW.weak (pw_and h h2) fun σ H Q ⟨H0, F0, lk, F, ρ, n, r, n', s, hf, q⟩ => by
    obtain ⟨c, n1, h1, h2⟩ := M.bind_some.mp hf
    refine ⟨H0, F0, lk, F, ρ, n, c, n1, s, h1, fun H1 F1 e1 => ?_⟩
    cases c with
    | true => exact iteT ⟨H0, F0, lk, F1, ρ, n1, r, n', s.ext e1, h2, fun H2 F2 e2 => q H2 F2 (e1.trans s.wd e2)⟩
    | false => cases M.pure_some.mp h2; exact iteF (q H1 F1 e1)
theorem W_or {rest : List Expr} {t u : Ro → M Bool} (h : VT X W ow a t) (h2 : VW X W ow (.BoolOp .Or (b :: rest) pos) u) : VW X W ow (.BoolOp .Or (a :: b :: rest) pos) (orT t u) :=
  PW.weak (pw_or h h2) fun σ H Q ⟨H0, F0, lk, F, ρ, n, r, n', s, hf, q⟩ => by
    obtain ⟨c, n1, h1, h2⟩ := M.bind_some.mp hf
    refine ⟨H0, F0, lk, F, ρ, n, c, n1, s, h1, fun H1 F1 e1 => ?_⟩
    cases c with
    | false => exact iteF ⟨H0, F0, lk, F1, ρ, n1, r, n', s.ext e1, h2, fun H2 F2 e2 => q H2 F2 (e1.trans s.wd e2)⟩
    | true => cases M.pure_some.mp h2; exact iteT (q H1 F1 e1)
theorem T_w {e : Expr} {t : Ro → M Bool} (h : VW X W ow e t) : VT X W ow e t := PW.pt h
/-- values: and, or, not of truth values; the last may be anything -/
def andE (f g : Ro → M D) : Ro → M D := fun ρ => asB f ρ >>= fun b => if b = true then g ρ else pure (.bl false)
def orE (f g : Ro → M D) : Ro → M D := fun ρ => asB f ρ >>= fun b => if b = true then pure (.bl true) else g ρ
def notE (f : Ro → M D) : Ro → M D := fun ρ => asB f ρ >>= fun b => pure (.bl (!b))
theorem V_one {op} (h : VE X W ow κ a fa) : VE X W ow κ (.BoolOp op [a] pos) fa := pe_one h
theorem V_and {rest : List Expr} (h : VE X W ow κa a fa) (h2 : VE X W ow .fz (.BoolOp .And (b :: rest) pos) fb) : VE X W ow .fz (.BoolOp .And (a :: b :: rest) pos) (andE fa fb) :=
  PE.weak (pe_and h h2) fun σ H Q ⟨H0, F0, lk, F, ρ, n, r, n', s, hf, q⟩ => by
    obtain ⟨c, n1, h1, h2⟩ := M.bind_some.mp hf
    refine ⟨H0, F0, lk, F, ρ, n, .bl c, n1, s, asB_some.mp h1, fun v H1 F1 e1 r1 => ⟨c, r1.repB.bl, ?_⟩⟩
    cases c with
    | true => exact iteT ⟨H0, F0, lk, F1, ρ, n1, r, n', s.ext e1, h2, fun v H2 F2 e2 r2 => q v H2 F2 (e1.trans s.wd e2) r2⟩
    | false => cases M.pure_some.mp h2; exact iteF (q _ H1 F1 e1 (.bl false))
theorem V_or {rest : List Expr} (h : VE X W ow κa a fa) (h2 : VE X W ow .fz (.BoolOp .Or (b :: rest) pos) fb) : VE X W ow .fz (.BoolOp .Or (a :: b :: rest) pos) (orE fa fb) :=
  PE.weak (pe_or h h2) fun σ H Q ⟨H0, F0, lk, F, ρ, n, r, n', s, hf, q⟩ => by
    obtain ⟨c, n1, h1, h2⟩ := M.bind_some.mp hf
    refine ⟨H0, F0, lk, F, ρ, n, .bl c, n1, s, asB_some.mp h1, fun v H1 F1 e1 r1 => ⟨c, r1.repB.bl, ?_⟩⟩
    cases c with
    | false => exact iteF ⟨H0, F0, lk, F1, ρ, n1, r, n', s.ext e1, h2, fun v H2 F2 e2 r2 => q v H2 F2 (e1.trans s.wd e2) r2⟩
    | true => cases M.pure_some.mp h2; exact iteT (q _ H1 F1 e1 (.bl true))
theorem V_not (h : VE X W ow κa a fa) : VE X W ow .fz (.UnaryOp .Not a pos) (notE fa) :=
  PE.weak (pe_not h) fun σ H Q ⟨H0, F0, lk, F, ρ, n, r, n', s, hf, q⟩ => by
    obtain ⟨c, n1, h1, h2⟩ := M.bind_some.mp hf
    cases M.pure_some.mp h2
    exact ⟨H0, F0, lk, F, ρ, n, .bl c, _, s, asB_some.mp h1, fun v H1 F1 e1 r1 => ⟨c, r1.repB.bl, q _ H1 F1 e1 (.bl _)⟩⟩
def ifE (t : Ro → M Bool) (f g : Ro → M D) : Ro → M D := fun ρ => t ρ >>= fun b => if b = true then f ρ else g ρ
theorem V_if {c : Expr} {t : Ro → M Bool} (hc : VT X W ow c t) (ha : VE X W ow κ a fa) (hb : VE X W ow κ b fb) : VE X W ow κ (.IfExp c a b pos) (ifE t fa fb) :=
  PE.weak (pe_ifExp hc ha hb) fun σ H Q ⟨H0, F0, lk, F, ρ, n, r, n', s, hf, q⟩ => by
    obtain ⟨c, n1, h1, h2⟩ := M.bind_some.mp hf
    refine ⟨H0, F0, lk, F, ρ, n, c, n1, s, h1, fun H1 F1 e1 => ?_⟩
    cases c with
    | true => exact iteT ⟨H0, F0, lk, F1, ρ, n1, r, n', s.ext e1, h2, fun v H2 F2 e2 r2 => q v H2 F2 (e1.trans s.wd e2) (r2.lift s.wd e1)⟩
    | false => exact iteF ⟨H0, F0, lk, F1, ρ, n1, r, n', s.ext e1, h2, fun v H2 F2 e2 r2 => q v H2 F2 (e1.trans s.wd e2) (r2.lift s.wd e1)⟩
end
end L3
namespace L3
open PySem PySem.Spec PyProof.Rows L2

/-! ### equality of data -/
mutual
def toPy : D → PyData
  | .non => .none
  | .bl b => .bool b
  | .int i => .int i
  | .str x => .str x
  | .tup xs => .tuple (toPyL xs)
  | .lst xs => .list (toPyL xs)
  | .rol _ => .none
  | .dK _ => .none
  | .dT _ => .none
  | .w => .none
def toPyL : List D → List PyData
  | [] => []
  | d :: ds => toPy d :: toPyL ds
end
mutual
def plain : D → Bool
  | .tup xs => plainL xs
  | .lst xs => plainL xs
  | .rol _ => false
  | .dK _ => false
  | .dT _ => false
  | .w => false
  | _ => true
def plainL : List D → Bool
  | [] => true
  | d :: ds => plain d && plainL ds
end
def dep (d : D) : Nat := (toPy d).depth
def depL (d : List D) : Nat := PyData.depthAll (toPyL d)
def deq (d e : D) : Bool := PyData.eqv (toPy d) (toPy e)
def deqL (d e : List D) : Bool := PyData.eqvAll (toPyL d) (toPyL e)

section
variable {K : PySem.W.Frag} {W : Option Wd} {F H : Hp} {lk : Lk}
mutual
theorem Rep.dp (fz : FOk lk F H) : ∀ (d : D) (v : V), Rep K W F v d → plain d = true → Dp K H v (toPy d)
  | .non, _, h, _ => by cases h; exact .non
  | .bl b, _, h, _ => by cases h; exact .bl b
  | .int i, _, h, _ => by cases h; exact .int i
  | .str x, _, h, _ => by cases h; exact .str x
  | .tup ds, _, h, p => by
    cases h with
    | tup h r => exact .tup (.of (fz.tup h)) (Reps.dp fz ds _ r p)
  | .lst ds, _, h, p => by
    cases h with
    | lst h r => exact .lst (.of (fz.lst h)) (Reps.dp fz ds _ r p)
  | .rol _, _, _, p => by cases p
  | .dK _, _, _, p => by cases p
  | .dT _, _, _, p => by cases p
  | .w, _, _, p => by cases p
theorem Reps.dp (fz : FOk lk F H) : ∀ (ds : List D) (vs : List V), Reps K W F vs ds → plainL ds = true → DpAll K H vs (toPyL ds)
  | [], _, h, _ => by cases h; exact .nil
  | d :: ds, _, h, p => by
    cases h with
    | cons h r => exact .cons (Rep.dp fz d _ h (Bool.and_eq_true_iff.mp p).1) (Reps.dp fz ds _ r (Bool.and_eq_true_iff.mp p).2)
end
mutual
theorem Rep.lay : ∀ {v : V} {d : D}, Rep K W F v d → (toPy d).canLay0 = true
  | _, _, .non => rfl
  | _, _, .bl b => rfl
  | _, _, .int i => rfl
  | _, _, .str x h => h
  | _, _, .tup h r => Reps.lay r
  | _, _, .lst h r => Reps.lay r
  | _, _, .rol h r => rfl
  | _, _, .dK _ _ _ _ => rfl
  | _, _, .dT _ _ _ _ => rfl
  | _, _, .w _ => rfl
theorem Reps.lay : ∀ {vs : List V} {ds : List D}, Reps K W F vs ds → PyData.canLayAll0 (toPyL ds) = true
  | _, _, .nil => rfl
  | _, _, .cons h r => Bool.and_eq_true_iff.mpr ⟨Rep.lay h, Reps.lay r⟩
end
theorem RepB.dp {v : V} {d : D} (fz : FOk lk F H) (r : RepB K W H F v d) (p : plain d = true) : Dp K H v (toPy d) ∧ (toPy d).canLay0 = true := by
  rcases r with r | ⟨a, rfl, _, _, o, ho, hr⟩
  · exact ⟨Rep.dp fz d v r p, r.lay⟩
  · cases hr with
    | lst q => exact ⟨.lst (.of ho) (Reps.dp fz _ _ q p), q.lay⟩
    | dK _ _ _ => cases p
    | dT _ _ _ => cases p
end

/-- equal as data: plain data of which one is no deeper than 60; dicts of which one is empty -/
def eqD (d e : D) : Option Bool :=
  if (plain d && plain e && decide (min (dep d) (dep e) ≤ 60)) = true then some (deq d e) else none

section
variable {X : Cx} {W : Option Wd} {ow : List Nat} {pos : Pos} {a b : Expr} {fa fb : Ro → M D} {κ κa κb : Kd}
def rEqM (K : PySem.W.Frag) : R2 := fun x y H Q => ∃ d e, Dp K H x d ∧ Dp K H y e ∧ d.canLay0 = true ∧ e.canLay0 = true ∧ min d.depth e.depth ≤ 60 ∧ Q (.bl (PyData.eqv d e)) H
def rNeM (K : PySem.W.Frag) : R2 := fun x y H Q => ∃ d e, Dp K H x d ∧ Dp K H y e ∧ d.canLay0 = true ∧ e.canLay0 = true ∧ min d.depth e.depth ≤ 60 ∧ Q (.bl (!PyData.eqv d e)) H
theorem compareEq_min {prog : Program} {w : World} {A : Around} {E : Value → Shared → Prop} {s : Shared} {a b : Value} {da db : PyData} {as bs : List Addr} {Q : Value → Shared → Prop} (ra : Reads s.heap a da as) (rb : Reads s.heap b db bs) (ha : da.canLay0 = true) (hb : db.canLay0 = true) (hu : A.units + min da.depth db.depth < cLine) (h : Q (.bool (PyData.eqv da db)) s) :
    wpAny (model prog w) A (compareOp .Eq a b) Q E s := SeqAt.compareEq_reads ra rb ha hb hu h
theorem op_eqM (hu : X.A.units + 100 < cLine) : OpR X (compareOp .Eq) (rEqM X.K) := by
  intro pins s σ H x y v u Q I rx ry h
  obtain ⟨d, e, hd, he, sd, se, hm, q⟩ := h
  obtain ⟨as, r1⟩ := Dp.reads I d x v hd rx
  obtain ⟨bs, r2⟩ := Dp.reads I e y u he ry
  exact SeqAt.compareEq_reads r1 r2 sd se (by omega) ⟨.bl _, H, I, rfl, q⟩
theorem op_neM (hu : X.A.units + 100 < cLine) : OpR X (compareOp .NotEq) (rNeM X.K) := by
  intro pins s σ H x y v u Q I rx ry h
  obtain ⟨d, e, hd, he, sd, se, hm, q⟩ := h
  obtain ⟨as, r1⟩ := Dp.reads I d x v hd rx
  obtain ⟨bs, r2⟩ := Dp.reads I e y u he ry
  exact SeqAt.compareNe_reads r1 r2 sd se (by omega) ⟨.bl _, H, I, rfl, q⟩
def toB (o : Option Bool) : Option D := o.map D.bl
theorem toB_some {o : Option Bool} {z : D} : toB o = some z ↔ ∃ b, o = some b ∧ z = .bl b := by
  cases o <;> simp [toB, eq_comm]
theorem eqD_some {d e : D} {b : Bool} (h : eqD d e = some b) : plain d = true ∧ plain e = true ∧ min (dep d) (dep e) ≤ 60 ∧ deq d e = b := by
  unfold eqD at h
  split at h
  · rename_i c
    simp only [Bool.and_eq_true, decide_eq_true_eq] at c
    exact ⟨c.1.1, c.1.2, c.2, Option.some.inj h⟩
  · cases h
theorem g_eq : GR2 X.K W .fz (rEqM X.K) fun d e => toB (eqD d e) := by
  intro lk H F n v u d e z Q fz wd rv ru hz q
  obtain ⟨b, hb, rfl⟩ := toB_some.mp hz
  obtain ⟨p1, p2, hm, rfl⟩ := eqD_some hb
  obtain ⟨d1, l1⟩ := rv.dp fz p1
  obtain ⟨d2, l2⟩ := ru.dp fz p2
  exact ⟨_, _, d1, d2, l1, l2, hm, q _ H F (.refl fz wd) (.bl _)⟩
theorem g_ne : GR2 X.K W .fz (rNeM X.K) fun d e => toB ((eqD d e).map (!·)) := by
  intro lk H F n v u d e z Q fz wd rv ru hz q
  obtain ⟨b, hb, rfl⟩ := toB_some.mp hz
  obtain ⟨c, hc, rfl⟩ : ∃ c, eqD d e = some c ∧ (!c) = b := by
    cases h : eqD d e with
    | none => rw [h] at hb; cases hb
    | some c => rw [h] at hb; exact ⟨c, rfl, Option.some.inj hb⟩
  obtain ⟨p1, p2, hm, rfl⟩ := eqD_some hc
  obtain ⟨d1, l1⟩ := rv.dp fz p1
  obtain ⟨d2, l2⟩ := ru.dp fz p2
  exact ⟨_, _, d1, d2, l1, l2, hm, q _ H F (.refl fz wd) (.bl _)⟩
abbrev eqE (fa fb : Ro → M D) : Ro → M D := bin fa fb fun d e => toB (eqD d e)
abbrev neE (fa fb : Ro → M D) : Ro → M D := bin fa fb fun d e => toB ((eqD d e).map (!·))
theorem V_eq (hu : X.A.units + 100 < cLine) (ha : VE X W ow κa a fa) (hb : VE X W ow κb b fb) : VE X W ow .fz (.Compare a [.Eq] [b] pos) (eqE fa fb) := V_cmp (op_eqM hu) g_eq ha hb
theorem V_ne (hu : X.A.units + 100 < cLine) (ha : VE X W ow κa a fa) (hb : VE X W ow κb b fb) : VE X W ow .fz (.Compare a [.NotEq] [b] pos) (neE fa fb) := V_cmp (op_neM hu) g_ne ha hb
theorem T_eq (hu : X.A.units + 100 < cLine) (ha : VE X W ow κa a fa) (hb : VE X W ow κb b fb) : VT X W ow (.Compare a [.Eq] [b] pos) (asB (eqE fa fb)) := T_cmp (op_eqM hu) g_eq ha hb
theorem T_ne (hu : X.A.units + 100 < cLine) (ha : VE X W ow κa a fa) (hb : VE X W ow κb b fb) : VT X W ow (.Compare a [.NotEq] [b] pos) (asB (neE fa fb)) := T_cmp (op_neM hu) g_ne ha hb

/-! ### x is None -/
def isN : D → D → Option D
  | .non, .non => some (.bl true)
  | _, .non => some (.bl false)
  | _, _ => none
def isNN : D → D → Option D
  | .non, .non => some (.bl false)
  | _, .non => some (.bl true)
  | _, _ => none
theorem RepB.isN {K : PySem.W.Frag} {lk : Lk} {H F : Hp} {v : V} {d : D} (fz : FOk lk F H) (r : RepB K W H F v d) : decide (v = .non) = (match d with | .non => true | _ => false) := by
  rcases r with r | ⟨a, rfl, _, _, o, ho, hr⟩
  · cases r <;> simp
  · cases hr <;> simp
theorem g_isN : GR2 X.K W .fz (fun x y H Q => y = .non ∧ Q (.bl (decide (x = .non))) H) isN := by
  intro lk H F n v u d e z Q fz wd rv ru hz q
  have hd := rv.isN fz
  cases e with
  | non =>
    refine ⟨ru.non, ?_⟩
    rw [hd]
    cases d <;> (cases hz; exact q _ H F (.refl fz wd) (.bl _))
  | _ => cases d <;> cases hz
theorem g_isNN : GR2 X.K W .fz (fun x y H Q => y = .non ∧ Q (.bl (!decide (x = .non))) H) isNN := by
  intro lk H F n v u d e z Q fz wd rv ru hz q
  have hd := rv.isN fz
  cases e with
  | non =>
    refine ⟨ru.non, ?_⟩
    rw [hd]
    cases d <;> (cases hz; exact q _ H F (.refl fz wd) (.bl _))
  | _ => cases d <;> cases hz
theorem V_is (ha : VE X W ow κa a fa) (hb : VE X W ow κb b fb) : VE X W ow .fz (.Compare a [.Is] [b] pos) (bin fa fb isN) := V_cmp op_isN g_isN ha hb
theorem V_isnot (ha : VE X W ow κa a fa) (hb : VE X W ow κb b fb) : VE X W ow .fz (.Compare a [.IsNot] [b] pos) (bin fa fb isNN) := V_cmp op_notN g_isNN ha hb
theorem T_is (ha : VE X W ow κa a fa) (hb : VE X W ow κb b fb) : VT X W ow (.Compare a [.Is] [b] pos) (asB (bin fa fb isN)) := T_cmp op_isN g_isN ha hb
theorem T_isnot (ha : VE X W ow κa a fa) (hb : VE X W ow κb b fb) : VT X W ow (.Compare a [.IsNot] [b] pos) (asB (bin fa fb isNN)) := T_cmp op_notN g_isNN ha hb

/-! ### arithmetic, + -/
theorem GR2.or {K : PySem.W.Frag} {r r' : R2} {g g' : D → D → Option D} (h : GR2 K W κ r g) (h' : GR2 K W κ r' g') : GR2 K W κ (fun x y H Q => r x y H Q ∨ r' x y H Q) (fun d e => (g d e).or (g' d e)) := by
  intro lk H F n v u d e z Q fz wd rv ru hz q
  cases hg : g d e with
  | some w =>
    have hz : (g d e).or (g' d e) = some z := hz
    rw [hg] at hz; cases hz
    exact .inl (h lk H F n v u d e _ Q fz wd rv ru hg q)
  | none =>
    have hz : (g d e).or (g' d e) = some z := hz
    rw [hg] at hz
    exact .inr (h' lk H F n v u d e _ Q fz wd rv ru hz q)
def intOp (C : Int → Int → Bool) (g : Int → Int → Int) : D → D → Option D
  | .int i, .int j => if C i j = true then some (.int (g i j)) else none
  | _, _ => none
theorem intOp_some {C : Int → Int → Bool} {g : Int → Int → Int} {d e z : D} (h : intOp C g d e = some z) : ∃ i j, d = .int i ∧ e = .int j ∧ C i j = true ∧ z = .int (g i j) := by
  unfold intOp at h
  split at h
  · rename_i i j
    split at h
    · exact ⟨i, j, rfl, rfl, by assumption, (Option.some.inj h).symm⟩
    · cases h
  · cases h
theorem g_rI {K : PySem.W.Frag} {C : Int → Int → Prop} {Cb : Int → Int → Bool} {g : Int → Int → Int} (hC : ∀ i j, Cb i j = true → C i j) (hk : κ ≠ .fr) : GR2 K W κ (rI C fun i j => .int (g i j)) (intOp Cb g) := by
  intro lk H F n v u d e z Q fz wd rv ru hz q
  obtain ⟨i, j, rfl, rfl, c, rfl⟩ := intOp_some hz
  exact ⟨i, j, rv.int, ru.int, hC i j c, q _ H F (.refl fz wd) ((Rep.int _).res hk)⟩
theorem g_rI0 {K : PySem.W.Frag} {g : Int → Int → Int} (hk : κ ≠ .fr) : GR2 K W κ (rI0 fun i j => .int (g i j)) (intOp (fun _ _ => true) g) := by
  intro lk H F n v u d e z Q fz wd rv ru hz q
  obtain ⟨i, j, rfl, rfl, c, rfl⟩ := intOp_some hz
  exact ⟨i, j, rv.int, ru.int, q _ H F (.refl fz wd) ((Rep.int _).res hk)⟩
def intC (g : Int → Int → Bool) : D → D → Option D
  | .int i, .int j => some (.bl (g i j))
  | _, _ => none
theorem g_rC {K : PySem.W.Frag} {g : Int → Int → Bool} : GR2 K W .fz (rI0 fun i j => .bl (g i j)) (intC g) := by
  intro lk H F n v u d e z Q fz wd rv ru hz q
  unfold intC at hz
  split at hz
  · cases hz
    exact ⟨_, _, rv.int, ru.int, q _ H F (.refl fz wd) (.bl _)⟩
  · cases hz
def strCat : D → D → Option D
  | .str x, .str y => if x.length + y.length ≤ sizeLine then some (.str (x ++ y)) else none
  | _, _ => none
theorem strOk_append {x y : Str} (hx : strOk x = true) (hy : strOk y = true) : strOk (x ++ y) = true := by
  unfold strOk at *
  show (x.cps ++ y.cps).all _ = true
  rw [Array.all_append, hx, hy] <;> rfl
theorem g_strCat {K : PySem.W.Frag} (hk : κ ≠ .fr) : GR2 K W κ (fun x y H Q => ∃ i j, x = .str i ∧ y = .str j ∧ i.length + j.length ≤ sizeLine ∧ Q (.str (i ++ j)) H) strCat := by
  intro lk H F n v u d e z Q fz wd rv ru hz q
  unfold strCat at hz
  split at hz
  · split at hz
    · cases hz
      obtain ⟨e1, o1⟩ := rv.str
      obtain ⟨e2, o2⟩ := ru.str
      exact ⟨_, _, e1, e2, by assumption, q _ H F (.refl fz wd) ((Rep.str _ (strOk_append o1 o2)).res hk)⟩
    · cases hz
  · cases hz
def tupCat : D → D → Option D
  | .tup xs, .tup ys => if xs.length + ys.length ≤ sizeLine then some (.tup (xs ++ ys)) else none
  | _, _ => none
theorem g_tupCat {K : PySem.W.Frag} (hk : κ ≠ .fr) : GR2 K W κ (rCatA K) tupCat := by
  intro lk H F n v u d e z Q fz wd rv ru hz q
  unfold tupCat at hz
  split at hz
  · split at hz
    · cases hz
      obtain ⟨a, vs, rfl, f1, h1, r1⟩ := rv.tup fz
      obtain ⟨b, us, rfl, f2, h2, r2⟩ := ru.tup fz
      refine ⟨a, b, vs, us, rfl, rfl, .of h1, .of h2, by rw [r1.length, r2.length]; assumption, fun e => ?_, fun _ e => ?_, fun _ _ p hp => ?_⟩
      · subst e
        cases r1
        exact q _ H F (.refl fz wd) ((Rep.tup f2 r2).res hk)
      · subst e
        cases r2
        refine q _ H F (.refl fz wd) (Rep.res ?_ hk)
        rw [List.append_nil]
        exact Rep.tup f1 r1
      · exact q _ _ _ (.new_fz fz wd hp) ((rep_newT (fz.none hp) (r1.append r2)).res hk)
    · cases hz
  · cases hz
def lstCat : D → D → Option D
  | .lst xs, .lst ys => if xs.length + ys.length ≤ sizeLine then some (.lst (xs ++ ys)) else none
  | _, _ => none
theorem g_lstCat {K : PySem.W.Frag} : GR2 K W .fr rCat lstCat := by
  intro lk H F n v u d e z Q fz wd rv ru hz q
  unfold lstCat at hz
  split at hz
  · split at hz
    · cases hz
      obtain ⟨a, vs, rfl, h1, r1⟩ := rv.lst fz
      obtain ⟨b, us, rfl, h2, r2⟩ := ru.lst fz
      refine ⟨a, b, vs, us, rfl, rfl, h1, h2, by rw [r1.length, r2.length]; assumption, fun p hp => ?_⟩
      exact q _ _ _ (.new_obj fz wd hp) (res_new fz wd hp (.lst (r1.append r2)))
    · cases hz
  · cases hz
theorem GR2.fz {K : PySem.W.Frag} {r : R2} {g : D → D → Option D} (h : GR2 K W .fr r g) : GR2 K W .fz r g := by
  intro lk H F n v u d e z Q fz wd rv ru hz q
  refine h lk H F n v u d e z Q fz wd rv ru hz fun x H' F' ex rs => ?_
  obtain ⟨a, rfl, o, hn⟩ := rs
  obtain ⟨F2, s2, new, fz2, wd2, r2⟩ := freeze ex.fz ex.wd o
  refine q _ H' F2 ⟨ex.f.trans s2, fun b u hb => ?_, ex.h, fz2, wd2⟩ r2
  rcases new b u hb with z | ⟨rfl, z⟩
  · exact ex.new b u z
  · exact .inr (.inl hn)
def addD (d e : D) : Option D := (intOp (fun _ _ => true) (fun i j => i + j) d e).or ((strCat d e).or ((tupCat d e).or (lstCat d e)))
theorem V_add (ha : VE X W ow κa a fa) (hb : VE X W ow κb b fb) : VE X W ow .fz (.BinOp a .Add b pos) (bin fa fb addD) :=
  V_bin (op_add.or (op_add_str.or (op_catA.or op_cat))) ((g_rI0 (by decide)).or ((g_strCat (by decide)).or ((g_tupCat (by decide)).or g_lstCat.fz))) ha hb
/-- of two lists, a new one -/
theorem V_addL (ha : VE X W ow κa a fa) (hb : VE X W ow κb b fb) : VE X W ow .fr (.BinOp a .Add b pos) (bin fa fb lstCat) := V_bin op_cat g_lstCat ha hb
def subD : D → D → Option D := intOp (fun _ _ => true) fun i j => i - j
theorem V_sub (ha : VE X W ow κa a fa) (hb : VE X W ow κb b fb) : VE X W ow .fz (.BinOp a .Sub b pos) (bin fa fb subD) := V_bin op_sub (g_rI0 (by decide)) ha hb
def mulOk (i j : Int) : Bool := (decide (-(2 ^ 64) < i) && decide (i < 2 ^ 64)) || (decide (-(2 ^ 64) < j) && decide (j < 2 ^ 64))
def mulD : D → D → Option D := intOp mulOk fun i j => i * j
theorem V_mul (ha : VE X W ow κa a fa) (hb : VE X W ow κb b fb) : VE X W ow .fz (.BinOp a .Mult b pos) (bin fa fb mulD) :=
  V_bin op_mul (g_rI (fun i j h => by unfold mulOk at h; simpa [CMul] using h) (by decide)) ha hb
def divOk (_ j : Int) : Bool := decide (j ≠ 0) && decide (j.natAbs < 1073741824)
def divD : D → D → Option D := intOp divOk fun i j => i.fdiv j
theorem V_div (ha : VE X W ow κa a fa) (hb : VE X W ow κb b fb) : VE X W ow .fz (.BinOp a .FloorDiv b pos) (bin fa fb divD) :=
  V_bin op_fdivN (g_rI (fun i j h => by unfold divOk at h; simpa [CDivN] using h) (by decide)) ha hb
def modD : D → D → Option D := intOp (fun _ j => decide (j ≠ 0)) fun i j => i.fmod j
theorem V_mod (ha : VE X W ow κa a fa) (hb : VE X W ow κb b fb) : VE X W ow .fz (.BinOp a .Mod b pos) (bin fa fb modD) :=
  V_bin op_modN (g_rI (fun i j h => by simpa using h) (by decide)) ha hb
def powOk (i j : Int) : Bool := decide (0 ≤ j) && decide (j ≤ 1000000) && decide (i.natAbs < 2 ^ 64)
def powD : D → D → Option D := intOp powOk fun i j => i ^ j.toNat
theorem V_pow (ha : VE X W ow κa a fa) (hb : VE X W ow κb b fb) : VE X W ow .fz (.BinOp a .Pow b pos) (bin fa fb powD) :=
  V_bin op_pow (g_rI (fun i j h => by unfold powOk at h; simp only [Bool.and_eq_true, decide_eq_true_eq] at h; exact ⟨h.1.1, h.1.2, h.2⟩) (by decide)) ha hb
def negD : D → Option D
  | .int i => some (.int (-i))
  | _ => none
theorem V_neg (ha : VE X W ow κa a fa) : VE X W ow .fz (.UnaryOp .USub a pos) (un fa negD) :=
  PE.weak (pe_un un_neg ha) fun σ H Q ⟨H0, F0, lk, F, ρ, n, d, n', s, hf, q⟩ => by
    obtain ⟨x, h1, h2⟩ := un_some.mp hf
    refine ⟨H0, F0, lk, F, ρ, n, x, n', s, h1, fun v H1 F1 e1 r1 => ?_⟩
    cases x with
    | int i => cases h2; exact ⟨i, r1.repB.int, q _ H1 F1 e1 (.int _)⟩
    | _ => cases h2

/-! ### order: ints, texts (tuples: below) -/
theorem V_lt (ha : VE X W ow κa a fa) (hb : VE X W ow κb b fb) : VE X W ow .fz (.Compare a [.Lt] [b] pos) (bin fa fb (intC fun i j => decide (i < j))) := V_cmp op_lt g_rC ha hb
theorem V_le (ha : VE X W ow κa a fa) (hb : VE X W ow κb b fb) : VE X W ow .fz (.Compare a [.LtE] [b] pos) (bin fa fb (intC fun i j => decide (i ≤ j))) := V_cmp op_le g_rC ha hb
theorem V_gt (ha : VE X W ow κa a fa) (hb : VE X W ow κb b fb) : VE X W ow .fz (.Compare a [.Gt] [b] pos) (bin fa fb (intC fun i j => decide (j < i))) := V_cmp op_gt g_rC ha hb
theorem V_ge (ha : VE X W ow κa a fa) (hb : VE X W ow κb b fb) : VE X W ow .fz (.Compare a [.GtE] [b] pos) (bin fa fb (intC fun i j => decide (j ≤ i))) := V_cmp op_ge g_rC ha hb
theorem T_lt (ha : VE X W ow κa a fa) (hb : VE X W ow κb b fb) : VT X W ow (.Compare a [.Lt] [b] pos) (asB (bin fa fb (intC fun i j => decide (i < j)))) := T_cmp op_lt g_rC ha hb
theorem T_le (ha : VE X W ow κa a fa) (hb : VE X W ow κb b fb) : VT X W ow (.Compare a [.LtE] [b] pos) (asB (bin fa fb (intC fun i j => decide (i ≤ j)))) := T_cmp op_le g_rC ha hb
theorem T_gt (ha : VE X W ow κa a fa) (hb : VE X W ow κb b fb) : VT X W ow (.Compare a [.Gt] [b] pos) (asB (bin fa fb (intC fun i j => decide (j < i)))) := T_cmp op_gt g_rC ha hb
theorem T_ge (ha : VE X W ow κa a fa) (hb : VE X W ow κb b fb) : VT X W ow (.Compare a [.GtE] [b] pos) (asB (bin fa fb (intC fun i j => decide (j ≤ i)))) := T_cmp op_ge g_rC ha hb
end
end L3
namespace L3
open PySem PySem.Spec PyProof.Rows L2

/-! ### argument lists, displays -/
def tA (K : PySem.W.Frag) (W : Option Wd) (ow : List Nat) (f : Ro → M (List D)) : TA := fun σ H Q =>
  ∃ H0 F0 lk F ρ n ds n', SR K W ow H0 F0 lk σ H F ρ n ∧ f ρ n = some (ds, n') ∧ ∀ vs H' F', Ext W lk H F n H' F' n' → Reps K W F' vs ds → Q vs H'
abbrev VA (X : Cx) (W : Option Wd) (ow : List Nat) (es : List Expr) (f : Ro → M (List D)) : Prop := PA X es (tA X.K W ow f)
def nilA : Ro → M (List D) := fun _ => pure []
def consA (f : Ro → M D) (g : Ro → M (List D)) : Ro → M (List D) := fun ρ => f ρ >>= fun x => g ρ >>= fun xs => pure (x :: xs)
def mapA (f : Ro → M (List D)) (g : List D → Option D) : Ro → M D := fun ρ => f ρ >>= fun xs => lo (g xs)
theorem mapA_some {f : Ro → M (List D)} {g : List D → Option D} {ρ : Ro} {n n' : Nat} {d : D} : mapA f g ρ n = some (d, n') ↔ ∃ xs, f ρ n = some (xs, n') ∧ g xs = some d := by
  unfold mapA
  rw [M.bind_some]
  constructor
  · rintro ⟨x, n1, h1, h2⟩
    obtain ⟨a, h3, e⟩ := lo_some.mp h2
    cases e
    exact ⟨x, h1, h3⟩
  · rintro ⟨x, h1, h3⟩
    exact ⟨x, n', h1, lo_some.mpr ⟨d, h3, rfl⟩⟩
section
variable {X : Cx} {W : Option Wd} {ow : List Nat} {pos : Pos} {e : Expr} {es : List Expr} {f fa fb : Ro → M D} {g : Ro → M (List D)} {κ κa κb : Kd}
theorem A_nil : VA X W ow [] nilA := PA.weak pa_nil fun σ H Q ⟨H0, F0, lk, F, ρ, n, ds, n', s, hf, q⟩ => by
  cases M.pure_some.mp hf
  exact q [] H F s.refl .nil
theorem A_cons (h : VE X W ow .fz e f) (hr : VA X W ow es g) (hs : starEach (e :: es) X.env = (false, eval e X.env) :: starEach es X.env := by rfl) : VA X W ow (e :: es) (consA f g) :=
  PA.weak (pa_cons h hr hs) fun σ H Q ⟨H0, F0, lk, F, ρ, n, ds, n', s, hf, q⟩ => by
    obtain ⟨x, n1, h1, h2⟩ := M.bind_some.mp hf
    obtain ⟨xs, n2, h3, h4⟩ := M.bind_some.mp h2
    cases M.pure_some.mp h4
    refine ⟨H0, F0, lk, F, ρ, n, x, n1, s, h1, fun v H1 F1 e1 r1 => ?_⟩
    refine ⟨H0, F0, lk, F1, ρ, n1, xs, _, s.ext e1, h3, fun vs H2 F2 e2 r2 => ?_⟩
    exact q (v :: vs) H2 F2 (e1.trans s.wd e2) (.cons (r1.same e2.f) r2)
def tupD (xs : List D) : Option D := if xs.length ≤ sizeLine then some (.tup xs) else none
def lstD (xs : List D) : Option D := if xs.length ≤ sizeLine then some (.lst xs) else none
theorem V_tup {x1} (h : VA X W ow es g) : VE X W ow .fz (.Tuple es x1 pos) (mapA g tupD) :=
  PE.weak (pe_tup h) fun σ H Q ⟨H0, F0, lk, F, ρ, n, d, n', s, hf, q⟩ => by
    obtain ⟨xs, h1, h2⟩ := mapA_some.mp hf
    refine ⟨H0, F0, lk, F, ρ, n, xs, n', s, h1, fun vs H1 F1 e1 r1 => ?_⟩
    unfold tupD at h2
    split at h2
    · cases h2
      refine ⟨by rw [r1.length]; assumption, fun p hp => ?_⟩
      exact q _ _ _ (e1.trans s.wd (.new_fz e1.fz e1.wd hp)) (rep_newT (e1.fz.none hp) r1)
    · cases h2
theorem V_lst (h : VA X W ow es g) : VE X W ow .fr (.List es pos) (mapA g lstD) :=
  PE.weak (pe_lst h) fun σ H Q ⟨H0, F0, lk, F, ρ, n, d, n', s, hf, q⟩ => by
    obtain ⟨xs, h1, h2⟩ := mapA_some.mp hf
    refine ⟨H0, F0, lk, F, ρ, n, xs, n', s, h1, fun vs H1 F1 e1 r1 => ?_⟩
    unfold lstD at h2
    split at h2
    · cases h2
      refine ⟨by rw [r1.length]; assumption, fun p hp => ?_⟩
      exact q _ _ _ (e1.trans s.wd (.new_obj e1.fz e1.wd hp)) (Res.lift (κ := .fr) s.wd e1 (res_new e1.fz e1.wd hp (.lst r1)))
    · cases h2

/-! ### keys -/
def keyD : D → Option Key
  | .int i => some (.inl i)
  | .str x => some (.inr x)
  | _ => none
def keysD : List D → Option (List Key)
  | [] => some []
  | d :: ds => (keyD d).bind fun k => (keysD ds).map fun ks => k :: ks
def keyT : D → Option (List Key)
  | .tup xs => keysD xs
  | _ => none
def kD : Key → D
  | .inl i => .int i
  | .inr x => .str x
theorem keyD_kD (k : Key) : keyD (kD k) = some k := by cases k <;> rfl
theorem keysD_kD : ∀ ks : List Key, keysD (ks.map kD) = some ks
  | [] => rfl
  | k :: ks => by show ((keyD (kD k)).bind fun k => (keysD (ks.map kD)).map fun ks => k :: ks) = _; rw [keyD_kD, keysD_kD ks] <;> rfl
theorem keyD_some {d : D} {k : Key} (h : keyD d = some k) : d = kD k := by cases d <;> cases h <;> rfl
theorem keysD_some : ∀ {ds : List D} {ks : List Key}, keysD ds = some ks → ds = ks.map kD
  | [], _, h => by cases h; rfl
  | d :: ds, ks, h => by
    have h : ((keyD d).bind fun k => (keysD ds).map fun ks => k :: ks) = some ks := h
    cases h1 : keyD d with
    | none => rw [h1] at h; cases h
    | some k =>
      rw [h1] at h
      cases h2 : keysD ds with
      | none => rw [h2] at h; cases h
      | some ks' =>
        rw [h2] at h
        cases h
        rw [keyD_some h1, keysD_some h2] <;> rfl
theorem RepB.key {K : PySem.W.Frag} {H F : Hp} {v : V} {k : Key} (r : RepB K W H F v (kD k)) : v = kV k := by
  cases k with
  | inl i => exact r.int
  | inr x => exact r.str.1
theorem Reps.keys {K : PySem.W.Frag} {F : Hp} : ∀ {ks : List Key} {vs : List V}, Reps K W F vs (ks.map kD) → vs = ks.map kV
  | [], _, r => by cases r; rfl
  | k :: ks, _, r => by
    cases r with
    | cons h t => rw [RepB.key (H := F) (.inl h), Reps.keys t] <;> rfl
section
variable {κ' : Type} [DecidableEq κ']
def lookD (kvs : List (κ' × D)) (k : κ') : Option D := (kvs.find? fun kv => decide (kv.1 = k)).map (·.2)
theorem look_rep {K : PySem.W.Frag} {F : Hp} {k : κ'} : ∀ {kvs : List (κ' × V)} {kds : List (κ' × D)}, kvs.map Prod.fst = kds.map Prod.fst → Reps K W F (kvs.map Prod.snd) (kds.map Prod.snd) →
    (∃ v d, valV kvs k = some v ∧ lookD kds k = some d ∧ Rep K W F v d) ∨ (valV kvs k = none ∧ lookD kds k = none)
  | [], [], _, _ => .inr ⟨rfl, rfl⟩
  | [], _ :: _, e, _ => by simp at e
  | _ :: _, [], e, _ => by simp at e
  | (k1, v1) :: kvs, (k2, d2) :: kds, e, r => by
    simp only [List.map_cons, List.cons.injEq] at e r
    obtain ⟨e1, e2⟩ := e
    subst e1
    cases r with
    | cons h t =>
      by_cases hk : k1 = k
      · exact .inl ⟨v1, d2, valV_pos hk, by simp [lookD, List.find?_cons, hk], h⟩
      · rw [valV_neg hk, show lookD ((k1, d2) :: kds) k = lookD kds k by simp [lookD, List.find?_cons, hk]]
        exact look_rep e2 t
end

/-! ### a subscript -/
def ixD : D → D → Option D
  | .lst xs, .int i => atI xs i
  | .tup xs, .int i => atI xs i
  | .rol xs, .int i => atI xs i
  | .str x, .int i => if x.length ≤ sizeLine then (atI x.cps.toList i).map fun c => .str ⟨#[c]⟩ else none
  | .dK kvs, k => (keyD k).bind fun k => lookD kvs k
  | .dT kvs, k => (keyT k).bind fun k => lookD kvs k
  | _, _ => none
theorem atI_reps {K : PySem.W.Frag} {F : Hp} {vs : List V} {ds : List D} {i : Int} {d : D} (r : Reps K W F vs ds) (h : atI ds i = some d) : ∃ v, atI vs i = some v ∧ Rep K W F v d := by
  unfold atI at h ⊢
  rw [r.length]
  cases hj : ixN ds.length i with
  | none => rw [hj] at h; cases h
  | some j => rw [hj] at h; exact r.get h
def rIxD : R2 := fun x y H Q => ∃ a v, x = .ref a ∧ DGet H a y (some v) ∧ Q v H
def isDict : D → Bool
  | .dK _ => true
  | .dT _ => true
  | _ => false
theorem g_ixS {K : PySem.W.Frag} {lk : Lk} {H F : Hp} {n : Nat} {v u : V} {d e z : D} {Q : VK} (nd : isDict d = false) (fz : FOk lk F H) (wd : WOk W H F n) (rv : RepB K W H F v d) (ru : RepB K W H F u e) (hz : ixD d e = some z)
    (q : ∀ x H' F', Ext W lk H F n H' F' n → Rep K W F' x z → Q x H') : rIx K v u H Q := by
  unfold ixD at hz
  split at hz
  · obtain ⟨a, vs, rfl, h, r⟩ := rv.lst fz
    obtain ⟨x, hx, rx⟩ := atI_reps r hz
    exact .inl ⟨a, vs, _, x, rfl, ru.int, .of h, hx, q x H F (.refl fz wd) rx⟩
  · obtain ⟨a, vs, rfl, _, h, r⟩ := rv.tup fz
    obtain ⟨x, hx, rx⟩ := atI_reps r hz
    exact .inr (.inl ⟨a, vs, _, x, rfl, ru.int, .of h, hx, q x H F (.refl fz wd) rx⟩)
  · obtain ⟨a, vs, rfl, h, r⟩ := rv.rol fz
    obtain ⟨x, hx, rx⟩ := atI_reps r hz
    exact .inl ⟨a, vs, _, x, rfl, ru.int, h, hx, q x H F (.refl fz wd) rx⟩
  · split at hz
    · rename_i x i hl
      cases hc : atI x.cps.toList i with
      | none => rw [hc] at hz; cases hz
      | some c =>
        rw [hc] at hz
        cases hz
        obtain ⟨e1, o1⟩ := rv.str
        have hm : c ∈ x.cps.toList := by
          unfold atI at hc
          cases hj : ixN x.cps.toList.length i with
          | none => rw [hj] at hc; cases hc
          | some j => rw [hj] at hc; exact List.mem_of_getElem? hc
        refine .inr (.inr ⟨_, i, c, e1, ru.int, hl, hc, q _ H F (.refl fz wd) (.str _ ?_)⟩)
        unfold strOk at o1 ⊢
        have := Array.all_eq_true'.mp o1 c (by simpa using hm)
        simpa using this
    · cases hz
  · cases nd
  · cases nd
  · cases hz
theorem g_ixK {K : PySem.W.Frag} {lk : Lk} {H F : Hp} {n : Nat} {v u : V} {d e z : D} {Q : VK} (nd : isDict d = true) (fz : FOk lk F H) (wd : WOk W H F n) (rv : RepB K W H F v d) (ru : RepB K W H F u e) (hz : ixD d e = some z)
    (q : ∀ x H' F', Ext W lk H F n H' F' n → Rep K W F' x z → Q x H') : rIxD v u H Q := by
  cases d with
  | dK kvs =>
    have hz : ((keyD e).bind fun k => lookD kvs k) = some z := hz
    cases hk : keyD e with
    | none => rw [hk] at hz; cases hz
    | some k =>
      rw [hk] at hz
      rw [keyD_some hk] at ru
      obtain ⟨a, kvs, rfl, h, e, r⟩ := rv.dK fz
      rcases look_rep (k := k) e r with ⟨x, d, h1, h2, h3⟩ | ⟨h1, h2⟩
      · have : lookD _ k = some z := hz
        rw [h2] at this; cases this
        exact ⟨a, x, rfl, .inl ⟨_, k, h, ru.key, h1.symm⟩, q x H F (.refl fz wd) h3⟩
      · have : lookD _ k = some z := hz
        rw [h2] at this; cases this
  | dT kvs =>
    have hz : ((keyT e).bind fun k => lookD kvs k) = some z := hz
    unfold keyT at hz
    cases e with
    | tup xs =>
      cases hk : keysD xs with
      | none => simp only [hk] at hz; cases hz
      | some k =>
        simp only [hk] at hz
        obtain ⟨b, us, rfl, fb, hb, rb⟩ := ru.tup fz
        rw [keysD_some hk] at rb
        cases rb.keys
        obtain ⟨a, kvs, rfl, h, e, r⟩ := rv.dT fz
        rcases look_rep (k := k) e r with ⟨x, d, h1, h2, h3⟩ | ⟨h1, h2⟩
        · have : lookD _ k = some z := hz
          rw [h2] at this; cases this
          exact ⟨a, x, rfl, .inr ⟨_, k, b, h, rfl, hb, h1.symm⟩, q x H F (.refl fz wd) h3⟩
        · have : lookD _ k = some z := hz
          rw [h2] at this; cases this
    | _ => cases hz
  | _ => cases nd
theorem V_ix {a b : Expr} (hu : X.A.units + 100 < cLine) (ha : VE X W ow κa a fa) (hb : VE X W ow κb b fb) (hs : PlainIx b := by exact fun _ _ => rfl) : VE X W ow .fz (.Subscript a b pos) (bin fa fb ixD) :=
  PE.weak (PE.or (pe_ix ix_seq ha hb hs) (pe_dget (by omega) ha hb hs)) fun σ H Q ⟨H0, F0, lk, F, ρ, n, d, n', s, hf, q⟩ => by
    obtain ⟨x, n1, y, h1, h2, h3⟩ := bin_some.mp hf
    cases hd : isDict x with
    | false =>
      refine .inl ⟨H0, F0, lk, F, ρ, n, x, n1, s, h1, fun v H1 F1 e1 r1 => ⟨H0, F0, lk, F1, ρ, n1, y, n', s.ext e1, h2, fun u H2 F2 e2 r2 => ?_⟩⟩
      exact g_ixS hd e2.fz e2.wd (r1.repB.ext e2) r2.repB h3 fun z H3 F3 e3 r3 => q z H3 F3 (e1.trans s.wd (e2.trans (s.ext e1).wd e3)) r3
    | true =>
      refine .inr ⟨H0, F0, lk, F, ρ, n, x, n1, s, h1, fun v H1 F1 e1 r1 => ⟨H0, F0, lk, F1, ρ, n1, y, n', s.ext e1, h2, fun u H2 F2 e2 r2 => ?_⟩⟩
      exact g_ixK hd e2.fz e2.wd (r1.repB.ext e2) r2.repB h3 fun z H3 F3 e3 r3 => q z H3 F3 (e1.trans s.wd (e2.trans (s.ext e1).wd e3)) r3
end
end L3
namespace L3
open PySem PySem.Spec PyProof.Rows L2

/-! ### slices -/
def cutD {α : Type} (xs : List α) (lo hi : Option Int) : List α := (xs.drop (HT.sIx xs.length 0 lo)).take (HT.sIx xs.length xs.length hi - HT.sIx xs.length 0 lo)
def slD : D → Option Int → Option Int → Option D
  | .lst xs, lo, hi => some (.lst (cutD xs lo hi))
  | .tup xs, lo, hi => some (.tup (cutD xs lo hi))
  | .str x, lo, hi => if x.length ≤ sizeLine then some (.str (cutS x lo hi)) else none
  | _, _, _ => none
abbrev PoF := Ro → M (Option Int)
def noPart : PoF := fun _ => pure none
def aPart (f : Ro → M D) : PoF := fun ρ => f ρ >>= fun x => match x with | .int i => pure (some i) | _ => fail
def tPo (K : PySem.W.Frag) (W : Option Wd) (ow : List Nat) (f : PoF) : TO := fun σ H Q =>
  ∃ H0 F0 lk F ρ n o n', SR K W ow H0 F0 lk σ H F ρ n ∧ f ρ n = some (o, n') ∧ ∀ H' F', Ext W lk H F n H' F' n' → Q o H'
abbrev VP (X : Cx) (W : Option Wd) (ow : List Nat) (e : Option Expr) (f : PoF) : Prop := PO X e (tPo X.K W ow f)
theorem PO.weak {X : Cx} {e : Option Expr} {t t' : TO} (h : PO X e t) (i : ∀ σ H Q, t' σ H Q → t σ H Q) : PO X e t' := ⟨fun pins s σ H Q I q => h.run pins s σ H Q I (i σ H Q q)⟩
def sl (f : Ro → M D) (l u : PoF) : Ro → M D := fun ρ => f ρ >>= fun x => l ρ >>= fun lo_ => u ρ >>= fun hi => lo (slD x lo_ hi)
section
variable {X : Cx} {W : Option Wd} {ow : List Nat} {pos : Pos} {e : Expr} {es : List Expr} {f fa fb : Ro → M D} {g : Ro → M (List D)} {κ κa κb : Kd}
theorem P_none : VP X W ow none noPart := PO.weak po_none fun σ H Q ⟨H0, F0, lk, F, ρ, n, o, n', s, hf, q⟩ => by
  cases M.pure_some.mp hf
  exact q H F s.refl
theorem P_some (h : VE X W ow κ e f) : VP X W ow (some e) (aPart f) := PO.weak (po_some h) fun σ H Q ⟨H0, F0, lk, F, ρ, n, o, n', s, hf, q⟩ => by
  obtain ⟨x, n1, h1, h2⟩ := M.bind_some.mp hf
  cases x with
  | int i =>
    cases M.pure_some.mp h2
    exact ⟨H0, F0, lk, F, ρ, n, .int i, _, s, h1, fun v H1 F1 e1 r1 => ⟨i, r1.repB.int, q H1 F1 e1⟩⟩
  | _ => exact absurd h2 (by simp [fail])
theorem cut_reps {K : PySem.W.Frag} {F : Hp} {vs : List V} {ds : List D} (r : Reps K W F vs ds) (l u : Option Int) : Reps K W F (cutV vs l u) (cutD ds l u) := by
  unfold cutV cutD
  rw [r.length]
  exact (r.drop _).take _
theorem cut_whole {K : PySem.W.Frag} {F : Hp} {vs : List V} {ds : List D} (r : Reps K W F vs ds) {l u : Option Int} (h : HT.sIx vs.length 0 l = 0 ∧ HT.sIx vs.length vs.length u = vs.length) : cutD ds l u = ds := by
  unfold cutD
  rw [← r.length, h.1, h.2, List.drop_zero, Nat.sub_zero, r.length]
  exact List.take_length
theorem strOk_cut {z : Str} {l u : Option Int} (h : strOk z = true) : strOk (cutS z l u) = true := by
  unfold strOk cutS at *
  rw [List.all_toArray, List.all_eq_true]
  intro c hc
  have := List.mem_of_mem_take hc
  have := List.mem_of_mem_drop this
  have := Array.all_eq_true'.mp h c (by simpa using this)
  simpa using this
theorem g_sl {K : PySem.W.Frag} {lk : Lk} {H F : Hp} {n : Nat} {v : V} {d z : D} {l u : Option Int} {Q : VK} (fz : FOk lk F H) (wd : WOk W H F n) (rv : RepB K W H F v d) (hz : slD d l u = some z)
    (q : ∀ x H' F', Ext W lk H F n H' F' n → Rep K W F' x z → Q x H') : rSlL K v l u H Q ∨ rSlA K v l u H Q ∨ rSlS v l u H Q := by
  unfold slD at hz
  split at hz
  · cases hz
    obtain ⟨a, vs, rfl, h, r⟩ := rv.lst fz
    refine .inl ⟨a, vs, rfl, .of h, fun p hp => q _ _ _ (.new_fz fz wd hp) ?_⟩
    exact .lst upd_same ((cut_reps r l u).same (Same.upd (fz.none hp)))
  · cases hz
    obtain ⟨a, vs, rfl, fa, h, r⟩ := rv.tup fz
    refine .inr (.inl ⟨a, vs, rfl, .of h, fun hw => ?_, fun _ p hp => q _ _ _ (.new_fz fz wd hp) ?_⟩)
    · rw [cut_whole r hw] at q
      exact q _ H F (.refl fz wd) (.tup fa r)
    · exact rep_newT (fz.none hp) (cut_reps r l u)
  · split at hz
    · cases hz
      obtain ⟨e1, o1⟩ := rv.str
      exact .inr (.inr ⟨_, e1, by assumption, q _ H F (.refl fz wd) (.str _ (strOk_cut o1))⟩)
    · cases hz
  · cases hz
theorem V_sl {lo_ hi : Option Expr} {l u : PoF} {p2 : Pos} (h : VE X W ow κ e f) (hl : VP X W ow lo_ l) (hu : VP X W ow hi u) : VE X W ow .fz (.Subscript e (.Slice lo_ hi none p2) pos) (sl f l u) :=
  PE.weak (pe_slice (sl_list.or (sl_tupA.or sl_str)) h hl hu) fun σ H Q ⟨H0, F0, lk, F, ρ, n, d, n', s, hf, q⟩ => by
    obtain ⟨x, n1, h1, h2⟩ := M.bind_some.mp hf
    obtain ⟨a, n2, h3, h4⟩ := M.bind_some.mp h2
    obtain ⟨b, n3, h5, h6⟩ := M.bind_some.mp h4
    obtain ⟨z, h7, e⟩ := lo_some.mp h6
    cases e
    refine ⟨H0, F0, lk, F, ρ, n, x, n1, s, h1, fun v H1 F1 e1 r1 => ?_⟩
    have s1 := s.ext e1
    refine ⟨H0, F0, lk, F1, ρ, n1, a, n2, s1, h3, fun H2 F2 e2 => ?_⟩
    have s2 := s1.ext e2
    refine ⟨H0, F0, lk, F2, ρ, n2, b, _, s2, h5, fun H3 F3 e3 => ?_⟩
    exact g_sl e3.fz e3.wd ((r1.repB.ext e2).ext e3) h7 fun y H4 F4 e4 r4 => q y H4 F4 (e1.trans s.wd (e2.trans s1.wd (e3.trans s2.wd e4))) r4

/-! ### x in y -/
def strIn (x y : Str) : Bool := if x.cps.size = 1 then decide (x.cps.getD 0 0 ∈ y.cps.toList) else !(Builtin.Str.occurrences y x 0 y.length 1).isEmpty
def seqIn (d : D) (ds : List D) : Option Bool :=
  if (plain d && plainL ds && decide (min (depL ds) (dep d) ≤ 60)) = true then some (ds.any fun z => deq z d) else none
def inD : D → D → Option Bool
  | x, .lst ys => seqIn x ys
  | x, .tup ys => seqIn x ys
  | .str x, .str y => some (strIn x y)
  | x, .dK kvs => (keyD x).map fun k => (lookD kvs k).isSome
  | x, .dT kvs => (keyT x).map fun k => (lookD kvs k).isSome
  | _, _ => none
def rInM (K : PySem.W.Frag) (neg : Bool) : R2 := fun x y H Q => ∃ d ds, Dp K H x d ∧ (Dp K H y (.list ds) ∨ Dp K H y (.tuple ds)) ∧ d.canLay0 = true ∧ PyData.canLayAll0 ds = true ∧ min (PyData.depthAll ds) d.depth ≤ 60 ∧ Q (.bl (if neg then !(ds.any fun z => PyData.eqv z d) else ds.any fun z => PyData.eqv z d)) H
theorem op_inM (hu : X.A.units + 100 < cLine) : OpR X (compareOp .In) (rInM X.K false) := by
  intro pins s σ H x y v u Q I rx ry h
  obtain ⟨d, ds, hd, he, sd, se, hm, q⟩ := h
  obtain ⟨as, r1⟩ := Dp.reads I d x v hd rx
  rcases he with he | he
  · obtain ⟨bs, r2⟩ := Dp.reads I (.list ds) y u he ry
    exact SeqAt.in_list_reads r2 r1 se sd (by omega) ⟨.bl _, H, I, rfl, q⟩
  · obtain ⟨bs, r2⟩ := Dp.reads I (.tuple ds) y u he ry
    exact SeqAt.in_tuple_reads r2 r1 se sd (by omega) ⟨.bl _, H, I, rfl, q⟩
theorem op_notInM (hu : X.A.units + 100 < cLine) : OpR X (compareOp .NotIn) (rInM X.K true) := by
  intro pins s σ H x y v u Q I rx ry h
  obtain ⟨d, ds, hd, he, sd, se, hm, q⟩ := h
  obtain ⟨as, r1⟩ := Dp.reads I d x v hd rx
  rcases he with he | he
  · obtain ⟨bs, r2⟩ := Dp.reads I (.list ds) y u he ry
    exact SeqAt.notIn_list_reads r2 r1 se sd (by omega) ⟨.bl _, H, I, rfl, q⟩
  · obtain ⟨bs, r2⟩ := Dp.reads I (.tuple ds) y u he ry
    exact SeqAt.notIn_tuple_reads r2 r1 se sd (by omega) ⟨.bl _, H, I, rfl, q⟩
def rInK (neg : Bool) : R2 := fun x y H Q => ∃ a o, y = .ref a ∧ DGet H a x o ∧ Q (.bl (if neg then !o.isSome else o.isSome)) H
theorem op_inK (hu : X.A.units + 100 < cLine) : OpR X (compareOp .In) (rInK false) := by
  intro pins s σ H x y v u Q I rx ry h
  obtain ⟨a, o, rfl, g, q⟩ := h
  obtain rfl : u = Value.ref a := ry
  exact d_in (by omega) I g rx fun s3 I3 => ⟨.bl _, H, I3, rfl, q⟩
theorem op_notInK (hu : X.A.units + 100 < cLine) : OpR X (compareOp .NotIn) (rInK true) := by
  intro pins s σ H x y v u Q I rx ry h
  obtain ⟨a, o, rfl, g, q⟩ := h
  obtain rfl : u = Value.ref a := ry
  exact d_notIn (by omega) I g rx fun s3 I3 => ⟨.bl _, H, I3, rfl, q⟩
def rInS (neg : Bool) : R2 := fun x y H Q => ∃ i j, x = .str i ∧ y = .str j ∧ Q (.bl (if neg then !strIn i j else strIn i j)) H
theorem one_sign {x : Str} (h : x.cps.size = 1) : x = ⟨#[x.cps.getD 0 0]⟩ := by
  obtain ⟨⟨l⟩⟩ := x
  match l, h with
  | [c], _ => rfl
theorem op_inS : OpR X (compareOp .In) (rInS false) := by
  intro pins s σ H x y v u Q I rx ry h
  obtain ⟨i, j, rfl, rfl, q⟩ := h
  unfold strIn at q
  by_cases hs : i.cps.size = 1
  · simp only [hs, if_true, Bool.false_eq_true, if_false] at q
    have e := one_sign hs
    exact op_in_sign pins s σ H _ _ v u Q I rx ry ⟨_, j, congrArg V.str e, rfl, q⟩
  · simp only [hs, if_false, Bool.false_eq_true] at q
    exact op_in_str pins s σ H _ _ v u Q I rx ry ⟨i, j, rfl, rfl, q⟩
theorem op_notInS : OpR X (compareOp .NotIn) (rInS true) := by
  intro pins s σ H x y v u Q I rx ry h
  obtain ⟨i, j, rfl, rfl, q⟩ := h
  unfold strIn at q
  by_cases hs : i.cps.size = 1
  · simp only [hs, if_true] at q
    have e := one_sign hs
    exact op_notIn_sign pins s σ H _ _ v u Q I rx ry ⟨_, j, congrArg V.str e, rfl, q⟩
  · simp only [hs, if_false, if_true] at q
    exact op_notIn_str pins s σ H _ _ v u Q I rx ry ⟨i, j, rfl, rfl, q⟩
theorem deqL_any (d : D) : ∀ ds : List D, ((toPyL ds).any fun z => PyData.eqv z (toPy d)) = ds.any fun z => deq z d
  | [] => rfl
  | x :: xs => by show (PyData.eqv (toPy x) (toPy d) || (toPyL xs).any _) = (deq x d || xs.any _); rw [deqL_any d xs] <;> rfl
theorem seqIn_some {d : D} {ds : List D} {b : Bool} (h : seqIn d ds = some b) : plain d = true ∧ plainL ds = true ∧ min (depL ds) (dep d) ≤ 60 ∧ (ds.any fun z => deq z d) = b := by
  unfold seqIn at h
  split at h
  · rename_i c
    simp only [Bool.and_eq_true, decide_eq_true_eq] at c
    exact ⟨c.1.1, c.1.2, c.2, Option.some.inj h⟩
  · cases h
theorem g_in {K : PySem.W.Frag} (neg : Bool) : GR2 K W .fz (fun x y H Q => rInM K neg x y H Q ∨ rInK neg x y H Q ∨ rInS neg x y H Q) fun d e => toB ((inD d e).map fun b => if neg then !b else b) := by
  intro lk H F n v u d e z Q fz wd rv ru hz q
  obtain ⟨b, hb, rfl⟩ := toB_some.mp hz
  obtain ⟨c, hc, rfl⟩ : ∃ c, inD d e = some c ∧ (if neg then !c else c) = b := by
    cases h : inD d e with
    | none => rw [h] at hb; cases hb
    | some c => rw [h] at hb; exact ⟨c, rfl, Option.some.inj hb⟩
  have fin : Q (.bl (if neg = true then !c else c)) H := q _ H F (.refl fz wd) (.bl _)
  unfold inD at hc
  split at hc
  · obtain ⟨p1, p2, hm, rfl⟩ := seqIn_some hc
    obtain ⟨d1, l1⟩ := rv.dp fz p1
    obtain ⟨d2, l2⟩ := ru.dp fz (show plain (.lst _) = true from p2)
    refine .inl ⟨_, _, d1, .inl d2, l1, l2, hm, ?_⟩
    rw [deqL_any]; exact fin
  · obtain ⟨p1, p2, hm, rfl⟩ := seqIn_some hc
    obtain ⟨d1, l1⟩ := rv.dp fz p1
    obtain ⟨d2, l2⟩ := ru.dp fz (show plain (.tup _) = true from p2)
    refine .inl ⟨_, _, d1, .inr d2, l1, l2, hm, ?_⟩
    rw [deqL_any]; exact fin
  · cases hc
    exact .inr (.inr ⟨_, _, rv.str.1, ru.str.1, fin⟩)
  · rename_i kvs
    cases hk : keyD d with
    | none => rw [hk] at hc; cases hc
    | some k =>
      rw [hk] at hc
      have hc : (lookD kvs k).isSome = c := Option.some.inj hc
      rw [keyD_some hk] at rv
      obtain ⟨a, kvs', rfl, h, e, r⟩ := ru.dK fz
      refine .inr (.inl ⟨a, _, rfl, .inl ⟨_, k, h, rv.key, rfl⟩, ?_⟩)
      rcases look_rep (k := k) e r with ⟨x, d, h1, h2, h3⟩ | ⟨h1, h2⟩
      · rw [h2] at hc; rw [h1]; subst hc; exact fin
      · rw [h2] at hc; rw [h1]; subst hc; exact fin
  · rename_i kvs
    unfold keyT at hc
    cases d with
    | tup xs =>
      cases hk : keysD xs with
      | none => simp only [hk] at hc; cases hc
      | some k =>
        simp only [hk] at hc
        have hc : (lookD kvs k).isSome = c := Option.some.inj hc
        obtain ⟨b, us, rfl, fb, hb, rb⟩ := rv.tup fz
        rw [keysD_some hk] at rb
        cases rb.keys
        obtain ⟨a, kvs', rfl, h, e, r⟩ := ru.dT fz
        refine .inr (.inl ⟨a, _, rfl, .inr ⟨_, k, b, h, rfl, hb, rfl⟩, ?_⟩)
        rcases look_rep (k := k) e r with ⟨x, d, h1, h2, h3⟩ | ⟨h1, h2⟩
        · rw [h2] at hc; rw [h1]; subst hc; exact fin
        · rw [h2] at hc; rw [h1]; subst hc; exact fin
    | _ => cases hc
  · cases hc
abbrev inE (fa fb : Ro → M D) : Ro → M D := bin fa fb fun d e => toB ((inD d e).map fun b => if false = true then !b else b)
abbrev ninE (fa fb : Ro → M D) : Ro → M D := bin fa fb fun d e => toB ((inD d e).map fun b => if true = true then !b else b)
variable {a b : Expr}
theorem V_in (hu : X.A.units + 100 < cLine) (ha : VE X W ow κa a fa) (hb : VE X W ow κb b fb) (hm : behindInMarks .In b = false := by rfl) : VE X W ow .fz (.Compare a [.In] [b] pos) (inE fa fb) := V_cmp ((op_inM hu).or ((op_inK hu).or op_inS)) (g_in false) ha hb hm
theorem V_nin (hu : X.A.units + 100 < cLine) (ha : VE X W ow κa a fa) (hb : VE X W ow κb b fb) (hm : behindInMarks .NotIn b = false := by rfl) : VE X W ow .fz (.Compare a [.NotIn] [b] pos) (ninE fa fb) := V_cmp ((op_notInM hu).or ((op_notInK hu).or op_notInS)) (g_in true) ha hb hm
theorem T_in (hu : X.A.units + 100 < cLine) (ha : VE X W ow κa a fa) (hb : VE X W ow κb b fb) (hm : behindInMarks .In b = false := by rfl) : VT X W ow (.Compare a [.In] [b] pos) (asB (inE fa fb)) := T_cmp ((op_inM hu).or ((op_inK hu).or op_inS)) (g_in false) ha hb hm
theorem T_nin (hu : X.A.units + 100 < cLine) (ha : VE X W ow κa a fa) (hb : VE X W ow κb b fb) (hm : behindInMarks .NotIn b = false := by rfl) : VT X W ow (.Compare a [.NotIn] [b] pos) (asB (ninE fa fb)) := T_cmp ((op_notInM hu).or ((op_notInK hu).or op_notInS)) (g_in true) ha hb hm
end
end L3
namespace L3
open PySem PySem.Spec PyProof.Rows L2

/-! ### calls of built-in functions -/
def GU (K : PySem.W.Frag) (W : Option Wd) (κ : Kd) (r : List V → Hp → VK → Prop) (g : D → Option D) : Prop := ∀ (lk : Lk) (H F : Hp) (n : Nat) (v : V) (d z : D) (Q : VK), FOk lk F H → WOk W H F n → RepB K W H F v d → g d = some z →
  (∀ x H' F', Ext W lk H F n H' F' n → Res K W κ H H' F' x z → Q x H') → r [v] H Q
theorem GU.or {K : PySem.W.Frag} {W : Option Wd} {κ : Kd} {r r' : List V → Hp → VK → Prop} {g g' : D → Option D} (h : GU K W κ r g) (h' : GU K W κ r' g') : GU K W κ (fun x H Q => r x H Q ∨ r' x H Q) (fun d => (g d).or (g' d)) := by
  intro lk H F n v d z Q fz wd rv hz q
  cases hg : g d with
  | some w =>
    have hz : (g d).or (g' d) = some z := hz
    rw [hg] at hz; cases hz
    exact .inl (h lk H F n v d _ Q fz wd rv hg q)
  | none =>
    have hz : (g d).or (g' d) = some z := hz
    rw [hg] at hz
    exact .inr (h' lk H F n v d _ Q fz wd rv hz q)
theorem GU.fz {K : PySem.W.Frag} {W : Option Wd} {r : List V → Hp → VK → Prop} {g : D → Option D} (h : GU K W .fr r g) : GU K W .fz r g := by
  intro lk H F n v d z Q fz wd rv hz q
  refine h lk H F n v d z Q fz wd rv hz fun x H' F' ex rs => ?_
  obtain ⟨a, rfl, o, hn⟩ := rs
  obtain ⟨F2, s2, new, fz2, wd2, r2⟩ := freeze ex.fz ex.wd o
  refine q _ H' F2 ⟨ex.f.trans s2, fun b u hb => ?_, ex.h, fz2, wd2⟩ r2
  rcases new b u hb with z | ⟨rfl, z⟩
  · exact ex.new b u z
  · exact .inr (.inl hn)
section
variable {X : Cx} {W : Option Wd} {ow : List Nat} {pos p : Pos} {e a b : Expr} {es : List Expr} {f fa fb : Ro → M D} {g : D → Option D} {κ κa κb : Kd} {r : List V → Hp → VK → Prop} {x : Str} {bid T : String}
theorem tCB_of (hg : GU X.K W κ r g) {σ : L2.St} {H : Hp} {Q : VK} (h : tV X.K W ow κ (un f g) σ H Q) : tCB r (tCons (tV X.K W ow κa f) tNil) σ H Q := by
  obtain ⟨H0, F0, lk, F, ρ, n, d, n', s, hf, q⟩ := h
  obtain ⟨x, h1, h2⟩ := un_some.mp hf
  refine ⟨H0, F0, lk, F, ρ, n, x, n', s, h1, fun v H1 F1 e1 r1 => ?_⟩
  exact hg lk H1 F1 n' v x d Q e1.fz e1.wd r1.repB h2 fun z H2 F2 e2 r2 => q z H2 F2 (e1.trans s.wd e2) (r2.lift s.wd e1)
theorem V_callB (hc : CallR X (.builtin bid) r) (hgu : GU X.K W κ r g) (hg : Gl X x) (hm : X.mg x = none) (hv : bootBuiltins x = some (.builtin bid)) (ha : VE X W ow κa a f)
    (hs : starEach [a] X.env = [(false, eval a X.env)] := by rfl) (hn : x ≠ "__name__" := by decide) (hdb : (x == ("__debug__" : Str)) = false := by decide) : VE X W ow κ (.Call (.Name x p) [a] [] pos) (un f g) :=
  PE.weak (pe_callB hc hg hm hv (pa_cons ha pa_nil hs) hn hdb hs) fun _ _ _ h => tCB_of hgu h
theorem V_callTy (hc : CallR X (.type T) r) (hgu : GU X.K W κ r g) (hg : Gl X x) (hm : X.mg x = none) (hv : bootBuiltins x = some (.type T)) (ha : VE X W ow κa a f)
    (hs : starEach [a] X.env = [(false, eval a X.env)] := by rfl) (hn : x ≠ "__name__" := by decide) (hdb : (x == ("__debug__" : Str)) = false := by decide) : VE X W ow κ (.Call (.Name x p) [a] [] pos) (un f g) :=
  PE.weak (pe_callTy hc hg hm hv (pa_cons ha pa_nil hs) hn hdb hs) fun _ _ _ h => tCB_of hgu h

/-! len -/
def lenD : D → Option D
  | .lst xs => some (.int xs.length)
  | .tup xs => some (.int xs.length)
  | .rol xs => some (.int xs.length)
  | .str x => if x.length ≤ sizeLine then some (.int x.length) else none
  | .dK kvs => some (.int kvs.length)
  | .dT kvs => some (.int kvs.length)
  | _ => none
def rLenK : List V → Hp → VK → Prop := fun xs H Q => ∃ p n, xs = [.ref p] ∧ ((∃ kvs, Rd H p (.dK kvs) ∧ n = kvs.length) ∨ ∃ kvs, Rd H p (.dT kvs) ∧ n = kvs.length) ∧ Q (.int (n : Nat)) H
theorem call_lenK : CallR X (.builtin "len") rLenK := by
  intro pins s σ H xs us Q I r h
  obtain ⟨p, n, rfl, h, q⟩ := h
  obtain ⟨u, rfl, rx⟩ := vals1 r
  obtain rfl : u = .ref p := rx
  rcases h with ⟨kvs, h, rfl⟩ | ⟨kvs, h, rfl⟩
  · exact d_len I h fun t s' I' => ⟨.int kvs.length, H, I', ⟨t, rfl⟩, q⟩
  · obtain ⟨z, hd, ys, rel, dd⟩ := dt_rd I.hok h
    have hl : kvs.length = ys.length := Paired.length rel
    refine call_len_dictH hd dd (by rw [← hl]; rw [sizeLine_eq] at z; omega) ?_
    rw [← hl]
    exact ⟨.int ((kvs.length : Nat) : Int), H, I.tok _, ⟨_, rfl⟩, q⟩
theorem len_keys {κ' : Type} {kvs : List (κ' × V)} {kds : List (κ' × D)} (e : kvs.map Prod.fst = kds.map Prod.fst) : kvs.length = kds.length := by
  have := congrArg List.length e
  simpa using this
theorem g_len {K : PySem.W.Frag} : GU K W .fz (fun xs H Q => (∃ x n, xs = [x] ∧ LenV K x H n ∧ Q (.int n) H) ∨ rLenK xs H Q) lenD := by
  intro lk H F n v d z Q fz wd rv hz q
  unfold lenD at hz
  split at hz
  · cases hz
    obtain ⟨a, vs, rfl, h, r⟩ := rv.lst fz
    exact .inl ⟨_, _, rfl, .inl ⟨vs, .of h, rfl⟩, by rw [r.length]; exact q _ H F (.refl fz wd) (.int _)⟩
  · cases hz
    obtain ⟨a, vs, rfl, _, h, r⟩ := rv.tup fz
    exact .inl ⟨_, _, rfl, .inr ⟨vs, .of h, rfl⟩, by rw [r.length]; exact q _ H F (.refl fz wd) (.int _)⟩
  · cases hz
    obtain ⟨a, vs, rfl, h, r⟩ := rv.rol fz
    exact .inl ⟨_, _, rfl, .inl ⟨vs, h, rfl⟩, by rw [r.length]; exact q _ H F (.refl fz wd) (.int _)⟩
  · split at hz
    · cases hz
      obtain ⟨e1, o1⟩ := rv.str
      subst e1
      exact .inl ⟨_, _, rfl, ⟨by assumption, rfl⟩, q _ H F (.refl fz wd) (.int _)⟩
    · cases hz
  · cases hz
    obtain ⟨a, kvs, rfl, h, e, r⟩ := rv.dK fz
    exact .inr ⟨a, _, rfl, .inl ⟨kvs, h, rfl⟩, by rw [len_keys e]; exact q _ H F (.refl fz wd) (.int _)⟩
  · cases hz
    obtain ⟨a, kvs, rfl, h, e, r⟩ := rv.dT fz
    exact .inr ⟨a, _, rfl, .inr ⟨kvs, h, rfl⟩, by rw [len_keys e]; exact q _ H F (.refl fz wd) (.int _)⟩
  · cases hz
abbrev lenE (f : Ro → M D) : Ro → M D := un f lenD
theorem V_len (ha : VE X W ow κa a f) (hg : Gl X "len") (hm : X.mg "len" = none) (hs : starEach [a] X.env = [(false, eval a X.env)] := by rfl) : VE X W ow .fz (.Call (.Name "len" p) [a] [] pos) (lenE f) :=
  V_callB (call_len.or call_lenK) g_len hg hm PySem.boot_len ha hs

/-! abs, int -/
def absD : D → Option D
  | .int i => some (.int (if i < 0 then -i else i))
  | _ => none
theorem g_abs {K : PySem.W.Frag} : GU K W .fz (fun xs H Q => ∃ i, xs = [.int i] ∧ Q (.int (if i < 0 then -i else i)) H) absD := by
  intro lk H F n v d z Q fz wd rv hz q
  cases d with
  | int i => cases hz; exact ⟨i, by rw [rv.int], q _ H F (.refl fz wd) (.int _)⟩
  | _ => cases hz
theorem V_abs (ha : VE X W ow κa a f) (hg : Gl X "abs") (hm : X.mg "abs" = none) (hs : starEach [a] X.env = [(false, eval a X.env)] := by rfl) : VE X W ow .fz (.Call (.Name "abs" p) [a] [] pos) (un f absD) :=
  V_callB call_abs g_abs hg hm (by decide +kernel) ha hs
def intD : D → Option D
  | .int i => some (.int i)
  | .bl b => some (.int (if b then 1 else 0))
  | _ => none
theorem g_int {K : PySem.W.Frag} : GU K W .fz (fun xs H Q => (∃ i, xs = [.int i] ∧ Q (.int i) H) ∨ ∃ k, xs = [.bl k] ∧ Q (.int (if k then 1 else 0)) H) intD := by
  intro lk H F n v d z Q fz wd rv hz q
  cases d with
  | int i => cases hz; exact .inl ⟨i, by rw [rv.int], q _ H F (.refl fz wd) (.int _)⟩
  | bl i => cases hz; exact .inr ⟨i, by rw [rv.bl], q _ H F (.refl fz wd) (.int _)⟩
  | _ => cases hz
theorem V_toInt (ha : VE X W ow κa a f) (hg : Gl X "int") (hm : X.mg "int" = none) (hs : starEach [a] X.env = [(false, eval a X.env)] := by rfl) : VE X W ow .fz (.Call (.Name "int" p) [a] [] pos) (un f intD) :=
  V_callTy call_int1 g_int hg hm (by decide +kernel) ha hs

/-! tuple, list of a list or a tuple -/
def tupleD : D → Option D
  | .lst xs => some (.tup xs)
  | .tup xs => some (.tup xs)
  | _ => none
theorem g_tuple {K : PySem.W.Frag} : GU K W .fz (fun xs H Q => ∃ p ys, xs = [.ref p] ∧ ((SqL K H p ys ∧ ∀ l, H l = none → Q (.ref l) (upd H l (.tup ys))) ∨ (SqT K H p ys ∧ Q (.ref p) H))) tupleD := by
  intro lk H F n v d z Q fz wd rv hz q
  cases d with
  | lst xs =>
    cases hz
    obtain ⟨a, vs, rfl, h, r⟩ := rv.lst fz
    exact ⟨a, vs, rfl, .inl ⟨.of h, fun l hl => q _ _ _ (.new_fz fz wd hl) (rep_newT (fz.none hl) r)⟩⟩
  | tup xs =>
    cases hz
    obtain ⟨a, vs, rfl, fa, h, r⟩ := rv.tup fz
    exact ⟨a, vs, rfl, .inr ⟨.of h, q _ H F (.refl fz wd) (.tup fa r)⟩⟩
  | _ => cases hz
theorem V_tuple (ha : VE X W ow κa a f) (hg : Gl X "tuple") (hm : X.mg "tuple" = none) (hs : starEach [a] X.env = [(false, eval a X.env)] := by rfl) : VE X W ow .fz (.Call (.Name "tuple" p) [a] [] pos) (un f tupleD) :=
  V_callTy call_tuple_of g_tuple hg hm (by decide +kernel) ha hs
def listD : D → Option D
  | .lst xs => some (.lst xs)
  | .tup xs => some (.lst xs)
  | _ => none
theorem g_list {K : PySem.W.Frag} : GU K W .fr (fun xs H Q => ∃ p ys, xs = [.ref p] ∧ (SqL K H p ys ∨ SqT K H p ys) ∧ ∀ l, H l = none → Q (.ref l) (upd H l (.lst ys))) listD := by
  intro lk H F n v d z Q fz wd rv hz q
  cases d with
  | lst xs =>
    cases hz
    obtain ⟨a, vs, rfl, h, r⟩ := rv.lst fz
    exact ⟨a, vs, rfl, .inl (.of h), fun l hl => q _ _ _ (.new_obj fz wd hl) (res_new fz wd hl (.lst r))⟩
  | tup xs =>
    cases hz
    obtain ⟨a, vs, rfl, fa, h, r⟩ := rv.tup fz
    exact ⟨a, vs, rfl, .inr (.of h), fun l hl => q _ _ _ (.new_obj fz wd hl) (res_new fz wd hl (.lst r))⟩
  | _ => cases hz
theorem V_list (ha : VE X W ow κa a f) (hg : Gl X "list") (hm : X.mg "list" = none) (hs : starEach [a] X.env = [(false, eval a X.env)] := by rfl) : VE X W ow .fr (.Call (.Name "list" p) [a] [] pos) (un f listD) :=
  V_callTy call_list_of g_list hg hm (by decide +kernel) ha hs

/-! sum, max, min of ints; any, all of truth values -/
def intsD : List D → Option (List Int)
  | [] => some []
  | .int i :: ds => (intsD ds).map fun ns => i :: ns
  | _ :: _ => none
theorem intsD_some : ∀ {ds : List D} {ns : List Int}, intsD ds = some ns → ds = ns.map D.int
  | [], _, h => by cases h; rfl
  | .int i :: ds, ns, h => by
    have h : (intsD ds).map (fun ns => i :: ns) = some ns := h
    cases h2 : intsD ds with
    | none => rw [h2] at h; cases h
    | some m => rw [h2] at h; cases h; rw [intsD_some h2] <;> rfl
  | .non :: _, _, h | .bl _ :: _, _, h | .str _ :: _, _, h | .tup _ :: _, _, h | .lst _ :: _, _, h | .rol _ :: _, _, h | .dK _ :: _, _, h | .dT _ :: _, _, h | .w :: _, _, h => by cases h
@[simp] theorem intsD_map : ∀ ns : List Int, intsD (ns.map D.int) = some ns
  | [] => rfl
  | i :: ns => by show (intsD (ns.map D.int)).map _ = _; rw [intsD_map ns] <;> rfl
theorem Reps.ints {K : PySem.W.Frag} {F : Hp} : ∀ {ns : List Int} {vs : List V}, Reps K W F vs (ns.map D.int) → vs = ns.map V.int
  | [], _, r => by cases r; rfl
  | i :: ns, _, r => by
    cases r with
    | cons h t => cases h; rw [Reps.ints t] <;> rfl
def blsD : List D → Option (List Bool)
  | [] => some []
  | .bl i :: ds => (blsD ds).map fun ns => i :: ns
  | _ :: _ => none
theorem blsD_some : ∀ {ds : List D} {ns : List Bool}, blsD ds = some ns → ds = ns.map D.bl
  | [], _, h => by cases h; rfl
  | .bl i :: ds, ns, h => by
    have h : (blsD ds).map (fun ns => i :: ns) = some ns := h
    cases h2 : blsD ds with
    | none => rw [h2] at h; cases h
    | some m => rw [h2] at h; cases h; rw [blsD_some h2] <;> rfl
  | .non :: _, _, h | .int _ :: _, _, h | .str _ :: _, _, h | .tup _ :: _, _, h | .lst _ :: _, _, h | .rol _ :: _, _, h | .dK _ :: _, _, h | .dT _ :: _, _, h | .w :: _, _, h => by cases h
@[simp] theorem blsD_map : ∀ ns : List Bool, blsD (ns.map D.bl) = some ns
  | [] => rfl
  | i :: ns => by show (blsD (ns.map D.bl)).map _ = _; rw [blsD_map ns] <;> rfl
theorem Reps.bls {K : PySem.W.Frag} {F : Hp} : ∀ {ns : List Bool} {vs : List V}, Reps K W F vs (ns.map D.bl) → vs = ns.map V.bl
  | [], _, r => by cases r; rfl
  | i :: ns, _, r => by
    cases r with
    | cons h t => cases h; rw [Reps.bls t] <;> rfl
def sumD : D → Option D
  | .lst xs => (intsD xs).map fun ns => .int ns.sum
  | _ => none
def maxI : List Int → Option Int
  | [] => none
  | i :: ns => some (ns.foldl max i)
def minI : List Int → Option Int
  | [] => none
  | i :: ns => some (ns.foldl min i)
theorem foldl_max_mem : ∀ (ns : List Int) (i : Int), ns.foldl max i ∈ i :: ns ∧ ∀ y ∈ i :: ns, y ≤ ns.foldl max i
  | [], i => by simp
  | j :: ns, i => by
    obtain ⟨h1, h2⟩ := foldl_max_mem ns (max i j)
    refine ⟨?_, fun y hy => ?_⟩
    · rcases List.mem_cons.mp h1 with e | h
      · show ns.foldl max (max i j) ∈ _
        rw [e]
        rcases Int.le_total i j with h | h
        · rw [Int.max_eq_right h]; simp
        · rw [Int.max_eq_left h]; simp
      · exact List.mem_cons_of_mem _ (List.mem_cons_of_mem _ h)
    · have h3 := h2 (max i j) List.mem_cons_self
      show y ≤ ns.foldl max (max i j)
      rcases List.mem_cons.mp hy with rfl | hy
      · omega
      · rcases List.mem_cons.mp hy with rfl | hy
        · omega
        · exact h2 y (List.mem_cons_of_mem _ hy)
theorem foldl_min_mem : ∀ (ns : List Int) (i : Int), ns.foldl min i ∈ i :: ns ∧ ∀ y ∈ i :: ns, ns.foldl min i ≤ y
  | [], i => by simp
  | j :: ns, i => by
    obtain ⟨h1, h2⟩ := foldl_min_mem ns (min i j)
    refine ⟨?_, fun y hy => ?_⟩
    · rcases List.mem_cons.mp h1 with e | h
      · show ns.foldl min (min i j) ∈ _
        rw [e]
        rcases Int.le_total i j with h | h
        · rw [Int.min_eq_left h]; simp
        · rw [Int.min_eq_right h]; simp
      · exact List.mem_cons_of_mem _ (List.mem_cons_of_mem _ h)
    · have h3 := h2 (min i j) List.mem_cons_self
      show ns.foldl min (min i j) ≤ y
      rcases List.mem_cons.mp hy with rfl | hy
      · omega
      · rcases List.mem_cons.mp hy with rfl | hy
        · omega
        · exact h2 y (List.mem_cons_of_mem _ hy)
def maxD : D → Option D
  | .lst xs => (intsD xs).bind fun ns => (maxI ns).map .int
  | _ => none
def minD : D → Option D
  | .lst xs => (intsD xs).bind fun ns => (minI ns).map .int
  | _ => none
def anyD : D → Option D
  | .lst xs => (blsD xs).map fun ns => .bl (ns.any id)
  | _ => none
def allD : D → Option D
  | .lst xs => (blsD xs).map fun ns => .bl (ns.all id)
  | _ => none
theorem g_sum {K : PySem.W.Frag} : GU K W .fz (rSum K) sumD := by
  intro lk H F n v d z Q fz wd rv hz q
  cases d with
  | lst xs =>
    have hz : (intsD xs).map (fun ns => D.int ns.sum) = some z := hz
    cases h2 : intsD xs with
    | none => rw [h2] at hz; cases hz
    | some ns =>
      rw [h2] at hz; cases hz
      rw [intsD_some h2] at rv
      obtain ⟨a, vs, rfl, h, r⟩ := rv.lst fz
      cases r.ints
      exact ⟨a, ns, rfl, .of h, q _ H F (.refl fz wd) (.int _)⟩
  | _ => cases hz
theorem g_max {K : PySem.W.Frag} : GU K W .fz (rMax K) maxD := by
  intro lk H F n v d z Q fz wd rv hz q
  cases d with
  | lst xs =>
    have hz : ((intsD xs).bind fun ns => (maxI ns).map D.int) = some z := hz
    cases h2 : intsD xs with
    | none => rw [h2] at hz; cases hz
    | some ns =>
      rw [h2] at hz
      rw [intsD_some h2] at rv
      obtain ⟨a, vs, rfl, h, r⟩ := rv.lst fz
      cases r.ints
      cases ns with
      | nil => cases hz
      | cons i ns =>
        cases hz
        refine ⟨a, i :: ns, rfl, .of h, by simp, fun m hm hy => ?_⟩
        obtain ⟨h1, h2⟩ := foldl_max_mem ns i
        rw [show m = ns.foldl max i from Int.le_antisymm (h2 m hm) (hy _ h1)]
        exact q _ H F (.refl fz wd) (.int _)
  | _ => cases hz
theorem g_min {K : PySem.W.Frag} : GU K W .fz (rMin K) minD := by
  intro lk H F n v d z Q fz wd rv hz q
  cases d with
  | lst xs =>
    have hz : ((intsD xs).bind fun ns => (minI ns).map D.int) = some z := hz
    cases h2 : intsD xs with
    | none => rw [h2] at hz; cases hz
    | some ns =>
      rw [h2] at hz
      rw [intsD_some h2] at rv
      obtain ⟨a, vs, rfl, h, r⟩ := rv.lst fz
      cases r.ints
      cases ns with
      | nil => cases hz
      | cons i ns =>
        cases hz
        refine ⟨a, i :: ns, rfl, .of h, by simp, fun m hm hy => ?_⟩
        obtain ⟨h1, h2⟩ := foldl_min_mem ns i
        rw [show m = ns.foldl min i from Int.le_antisymm (hy _ h1) (h2 m hm)]
        exact q _ H F (.refl fz wd) (.int _)
  | _ => cases hz
theorem g_any {K : PySem.W.Frag} : GU K W .fz (rAny K) anyD := by
  intro lk H F n v d z Q fz wd rv hz q
  cases d with
  | lst xs =>
    have hz : (blsD xs).map (fun ns => D.bl (ns.any id)) = some z := hz
    cases h2 : blsD xs with
    | none => rw [h2] at hz; cases hz
    | some ns =>
      rw [h2] at hz; cases hz
      rw [blsD_some h2] at rv
      obtain ⟨a, vs, rfl, h, r⟩ := rv.lst fz
      cases r.bls
      exact ⟨a, ns, rfl, .of h, q _ H F (.refl fz wd) (.bl _)⟩
  | _ => cases hz
theorem g_all {K : PySem.W.Frag} : GU K W .fz (rAll K) allD := by
  intro lk H F n v d z Q fz wd rv hz q
  cases d with
  | lst xs =>
    have hz : (blsD xs).map (fun ns => D.bl (ns.all id)) = some z := hz
    cases h2 : blsD xs with
    | none => rw [h2] at hz; cases hz
    | some ns =>
      rw [h2] at hz; cases hz
      rw [blsD_some h2] at rv
      obtain ⟨a, vs, rfl, h, r⟩ := rv.lst fz
      cases r.bls
      exact ⟨a, ns, rfl, .of h, q _ H F (.refl fz wd) (.bl _)⟩
  | _ => cases hz
theorem V_sum (hc : X.calm = true) (ha : VE X W ow κa a f) (hg : Gl X "sum") (hm : X.mg "sum" = none) (hs : starEach [a] X.env = [(false, eval a X.env)] := by rfl) : VE X W ow .fz (.Call (.Name "sum" p) [a] [] pos) (un f sumD) :=
  V_callB (cr_sum hc) g_sum hg hm (by decide +kernel) ha hs
theorem V_max (hc : X.calm = true) (ha : VE X W ow κa a f) (hg : Gl X "max") (hm : X.mg "max" = none) (hs : starEach [a] X.env = [(false, eval a X.env)] := by rfl) : VE X W ow .fz (.Call (.Name "max" p) [a] [] pos) (un f maxD) :=
  V_callB (cr_max hc) g_max hg hm (by decide +kernel) ha hs
theorem V_min (hc : X.calm = true) (ha : VE X W ow κa a f) (hg : Gl X "min") (hm : X.mg "min" = none) (hs : starEach [a] X.env = [(false, eval a X.env)] := by rfl) : VE X W ow .fz (.Call (.Name "min" p) [a] [] pos) (un f minD) :=
  V_callB (cr_min hc) g_min hg hm (by decide +kernel) ha hs
theorem V_any (hc : X.calm = true) (ha : VE X W ow κa a f) (hg : Gl X "any") (hm : X.mg "any" = none) (hs : starEach [a] X.env = [(false, eval a X.env)] := by rfl) : VE X W ow .fz (.Call (.Name "any" p) [a] [] pos) (un f anyD) :=
  V_callB (cr_any hc) g_any hg hm (by decide +kernel) ha hs
theorem V_all (hc : X.calm = true) (ha : VE X W ow κa a f) (hg : Gl X "all") (hm : X.mg "all" = none) (hs : starEach [a] X.env = [(false, eval a X.env)] := by rfl) : VE X W ow .fz (.Call (.Name "all" p) [a] [] pos) (un f allD) :=
  V_callB (cr_all hc) g_all hg hm (by decide +kernel) ha hs

/-! max, min of two ints -/
theorem tCB2_of {r : List V → Hp → VK → Prop} {g : D → D → Option D} (hg : GR2 X.K W κ (fun x y H Q => r [x, y] H Q) g) {σ : L2.St} {H : Hp} {Q : VK} (h : tV X.K W ow κ (bin fa fb g) σ H Q) :
    tCB r (tCons (tV X.K W ow κa fa) (tCons (tV X.K W ow κb fb) tNil)) σ H Q := by
  obtain ⟨H0, F0, lk, F, ρ, n, d, n', s, hf, q⟩ := h
  obtain ⟨x, n1, y, h1, h2, h3⟩ := bin_some.mp hf
  refine ⟨H0, F0, lk, F, ρ, n, x, n1, s, h1, fun v H1 F1 e1 r1 => ?_⟩
  have s1 := s.ext e1
  refine ⟨H0, F0, lk, F1, ρ, n1, y, n', s1, h2, fun u H2 F2 e2 r2 => ?_⟩
  refine hg lk H2 F2 n' v u x y d Q e2.fz e2.wd (r1.repB.ext e2) r2.repB h3 fun z H3 F3 e3 r3 => ?_
  have e12 := e1.trans s.wd e2
  exact q z H3 F3 (e12.trans s.wd e3) (r3.lift s.wd e12)
theorem V_callB2 {g : D → D → Option D} (hc : CallR X (.builtin bid) r) (hgu : GR2 X.K W κ (fun x y H Q => r [x, y] H Q) g) (hg : Gl X x) (hm : X.mg x = none) (hv : bootBuiltins x = some (.builtin bid)) (ha : VE X W ow κa a fa) (hb : VE X W ow κb b fb)
    (hs : starEach [a, b] X.env = [(false, eval a X.env), (false, eval b X.env)] := by rfl) (hs1 : starEach [b] X.env = [(false, eval b X.env)] := by rfl) (hn : x ≠ "__name__" := by decide) (hdb : (x == ("__debug__" : Str)) = false := by decide) : VE X W ow κ (.Call (.Name x p) [a, b] [] pos) (bin fa fb g) :=
  PE.weak (pe_callB hc hg hm hv (pa_cons ha (pa_cons hb pa_nil hs1) (by rw [hs, hs1])) hn hdb (by rw [hs, hs1]) (by rw [hs1]; rfl)) fun _ _ _ h => tCB2_of hgu h
def max2D : D → D → Option D
  | .int i, .int j => some (.int (if j > i then j else i))
  | _, _ => none
def min2D : D → D → Option D
  | .int i, .int j => some (.int (if j < i then j else i))
  | _, _ => none
theorem V_max2 (hc : X.calm = true) (ha : VE X W ow κa a fa) (hb : VE X W ow κb b fb) (hg : Gl X "max") (hm : X.mg "max" = none) (hs : starEach [a, b] X.env = [(false, eval a X.env), (false, eval b X.env)] := by rfl) (hs1 : starEach [b] X.env = [(false, eval b X.env)] := by rfl) :
    VE X W ow .fz (.Call (.Name "max" p) [a, b] [] pos) (bin fa fb max2D) :=
  V_callB2 (call_max2 hc) (fun lk H F n v u d e z Q fz wd rv ru hz q => by
    unfold max2D at hz
    split at hz
    · cases hz
      exact ⟨_, _, by rw [rv.int, ru.int], q _ H F (.refl fz wd) (.int _)⟩
    · cases hz) hg hm (by decide +kernel) ha hb hs hs1
theorem V_min2 (hc : X.calm = true) (ha : VE X W ow κa a fa) (hb : VE X W ow κb b fb) (hg : Gl X "min") (hm : X.mg "min" = none) (hs : starEach [a, b] X.env = [(false, eval a X.env), (false, eval b X.env)] := by rfl) (hs1 : starEach [b] X.env = [(false, eval b X.env)] := by rfl) :
    VE X W ow .fz (.Call (.Name "min" p) [a, b] [] pos) (bin fa fb min2D) :=
  V_callB2 (call_min2 hc) (fun lk H F n v u d e z Q fz wd rv ru hz q => by
    unfold min2D at hz
    split at hz
    · cases hz
      exact ⟨_, _, by rw [rv.int, ru.int], q _ H F (.refl fz wd) (.int _)⟩
    · cases hz) hg hm (by decide +kernel) ha hb hs hs1

/-! isinstance -/
def tyD : D → Option String
  | .non => some "NoneType"
  | .bl _ => some "bool"
  | .int _ => some "int"
  | .str _ => some "str"
  | .tup _ => some "tuple"
  | .lst _ => some "list"
  | .dK _ => some "dict"
  | .dT _ => some "dict"
  | _ => none
def isiD (T : String) (d : D) : Option D := (tyD d).bind fun t => (kitB t T).map .bl
def rIsiD (K : PySem.W.Frag) (T : String) : V → Hp → VK → Prop := fun x H Q => ∃ (t : Value) (b : Bool), (TyX K H x t ∨ ∃ a o kvs, x = .ref a ∧ H a = some (.frz o (.dT kvs)) ∧ t = .type "dict") ∧ PySem.W.kitOne K t (.type T) = some b ∧ Q (.bl b) H
theorem call_isiD : CallR X (.builtin "isinstance") (fun xs H Q => ∃ x, xs = [x, .ty T] ∧ rIsiD X.K T x H Q) := by
  intro pins s σ H xs us Q I r h
  obtain ⟨x, rfl, t, b, ty, e, q⟩ := h
  obtain ⟨u1, u2, rfl, r1, r2⟩ := vals2 r
  obtain rfl : u2 = Value.type T := r2
  rcases ty with ty | ⟨a, ob, kvs, rfl, ea, rfl⟩
  · obtain ⟨P, Z, p, hx⟩ := kit_of I r1 ty
    exact PySem.W.kia_one Z I.kIn p e hx fun tk => ⟨.bl b, H, I.tok tk, rfl, q⟩
  · obtain rfl : u1 = Value.ref a := r1
    obtain ⟨_, _, _, xs, _, o, es, ep, h1, h2, _⟩ := (show ObjOk X.prog X.w H s.heap a (.frz ob (.dT kvs)) from I.hok a _ ea)
    exact PySem.W.kia_one PySem.W.kitx_dict I.kIn ⟨o, h1, h2.1⟩ e (fun z => nomatch z) fun tk => ⟨.bl b, H, I.tok tk, rfl, q⟩
theorem ty_of {K : PySem.W.Frag} {lk : Lk} {H F : Hp} {v : V} {d : D} {t : String} (fz : FOk lk F H) (r : RepB K W H F v d) (h : tyD d = some t) : TyX K H v (.type t) ∨ ∃ a o kvs, v = .ref a ∧ H a = some (.frz o (.dT kvs)) ∧ Value.type t = .type "dict" := by
  cases d with
  | non => cases h; rw [r.non]; exact .inl (.base .non)
  | bl b => cases h; rw [r.bl]; exact .inl (.base (.bl _))
  | int b => cases h; rw [r.int]; exact .inl (.base (.int _))
  | str b => cases h; rw [r.str.1]; exact .inl (.base (.str _))
  | tup b => cases h; obtain ⟨a, vs, rfl, _, h, _⟩ := r.tup fz; exact .inl (.base (.tup h))
  | lst b => cases h; obtain ⟨a, vs, rfl, h, _⟩ := r.lst fz; exact .inl (.base (.lst h))
  | rol b => cases h
  | w => cases h
  | dK b =>
    cases h
    obtain ⟨a, vs, rfl, h | ⟨o, h⟩, _⟩ := r.dK fz
    · exact .inl (.base (.dK h))
    · exact .inl (.fDict h)
  | dT b =>
    cases h
    obtain ⟨a, vs, rfl, h | ⟨o, h⟩, _⟩ := r.dT fz
    · exact .inl (.base (.dT h))
    · exact .inr ⟨a, o, _, rfl, h, rfl⟩
theorem V_isi {y : Str} {q : Pos} (ha : VE X W ow κa a f) (hg : Gl X "isinstance") (hm : X.mg "isinstance" = none) (hgT : Gl X y) (hmT : X.mg y = none) (hvT : bootBuiltins y = some (.type T))
    (hs : starEach [a, .Name y q] X.env = [(false, eval a X.env), (false, eval (.Name y q) X.env)] := by rfl) (hs1 : starEach [.Name y q] X.env = [(false, eval (.Name y q) X.env)] := by rfl)
    (hn : y ≠ "__name__" := by decide) (hdb : (y == ("__debug__" : Str)) = false := by decide) : VE X W ow .fz (.Call (.Name "isinstance" p) [a, .Name y q] [] pos) (un f (isiD T)) :=
  PE.weak (pe_callB (call_isiD (T := T)) hg hm (by decide +kernel) (pa_cons ha (pa_cons (pe_bltn (v := .ty T) hgT hmT hvT rfl hn hdb) pa_nil hs1) (by rw [hs, hs1])) (by decide) (by decide) (by rw [hs, hs1]) (by rw [hs1]; rfl)) fun σ H Q ⟨H0, F0, lk, F, ρ, n, d, n', s, hf, q⟩ => by
    obtain ⟨x, h1, h2⟩ := un_some.mp hf
    refine ⟨H0, F0, lk, F, ρ, n, x, n', s, h1, fun v H1 F1 e1 r1 => ⟨v, rfl, ?_⟩⟩
    unfold isiD at h2
    cases ht : tyD x with
    | none => rw [ht] at h2; cases h2
    | some t =>
      rw [ht] at h2
      have h2 : (kitB t T).map D.bl = some d := h2
      cases hk : kitB t T with
      | none => rw [hk] at h2; cases h2
      | some b =>
        rw [hk] at h2; cases h2
        exact ⟨.type t, b, ty_of e1.fz r1.repB ht, kit_ty hk, q _ H1 F1 e1 (.bl _)⟩
end
end L3
namespace L3
open PySem PySem.Spec PyProof.Rows L2

/-! ### owned slots, in order -/
def ins (i : Nat) : List Nat → List Nat
  | [] => [i]
  | j :: js => if i < j then i :: j :: js else if i = j then j :: js else j :: ins i js
def rmv (i : Nat) (ow : List Nat) : List Nat := ow.filter fun j => decide (j ≠ i)
theorem mem_ins {i j : Nat} : ∀ {ow : List Nat}, j ∈ ins i ow ↔ j ∈ ow ∨ j = i
  | [] => by simp [ins]
  | k :: ks => by
    unfold ins
    split
    · simp [or_comm]
    · split
      · rename_i h; subst h; simp; intro h; simp [h]
      · simp [mem_ins (ow := ks), or_assoc]
theorem mem_rmv {i j : Nat} {ow : List Nat} : j ∈ rmv i ow ↔ j ∈ ow ∧ j ≠ i := by
  unfold rmv; rw [List.mem_filter]; simp
/-! ### statements -/
inductive Out where
  | nx (ρ : Ro) | rt (d : D) | bk (ρ : Ro) | ct (ρ : Ro)
abbrev SF := Ro → M Out
/-- the heap's part of SR -/
structure SH (W : Option Wd) (H0 F0 : Hp) (lk : Lk) (H F : Hp) (n : Nat) : Prop where
  f0 : Same F0 F
  new : ∀ a o, F a = some o → F0 a = some o ∨ H0 a = none ∨ ∃ xs, H0 a = some (.tup xs)
  h0 : ∀ a o, H0 a = some o → notW W a → H a = some o ∨ ∃ ob, (a, ob, o) ∈ lk
  fz : FOk lk F H
  wd : WOk W H F n
def OutOk (K : PySem.W.Frag) (W : Option Wd) (ow owL : List Nat) (H0 F0 : Hp) (lk : Lk) (n : Nat) (Dn : Ends) : Out → Prop
  | .nx ρ => ∀ σ H F, SR K W ow H0 F0 lk σ H F ρ n → Dn.nx σ H
  | .rt d => ∀ v H F, SH W H0 F0 lk H F n → Rep K W F v d → Dn.rt v H
  | .bk ρ => ∀ σ H F, SR K W owL H0 F0 lk σ H F ρ n → Dn.bk σ H
  | .ct ρ => ∀ σ H F, SR K W owL H0 F0 lk σ H F ρ n → Dn.ct σ H
def tS (K : PySem.W.Frag) (W : Option Wd) (ow ow' owL : List Nat) (f : SF) : TS := fun Dn σ H =>
  ∃ H0 F0 lk F ρ n r n', SR K W ow H0 F0 lk σ H F ρ n ∧ f ρ n = some (r, n') ∧ OutOk K W ow' owL H0 F0 lk n' Dn r
abbrev VS (X : Cx) (W : Option Wd) (ow ow' owL : List Nat) (st : Stmt) (f : SF) : Prop := PS X st (tS X.K W ow ow' owL f)
abbrev VSs (X : Cx) (W : Option Wd) (ow ow' owL : List Nat) (sts : List Stmt) (f : SF) : Prop := PSs X sts (tS X.K W ow ow' owL f)

section
variable {K : PySem.W.Frag} {W : Option Wd} {ow ow' owL : List Nat} {H0 F0 : Hp} {lk : Lk} {σ σ' : L2.St} {F H H' F' : Hp} {ρ ρ' : Ro} {n n' : Nat} {i : Nat} {v : V} {d : D}
theorem SR.sh (s : SR K W ow H0 F0 lk σ H F ρ n) : SH W H0 F0 lk H F n := ⟨s.f0, s.new, s.h0, s.fz, s.wd⟩
theorem SR.lt (s : SR K W ow H0 F0 lk σ H F ρ n) (h : σ[i]? = some (some v)) : i < ρ.length := by
  rw [s.len]; exact (List.getElem?_eq_some_iff.mp h).1
theorem get_set {α : Type} {xs : List α} {i j : Nat} {x y : α} (h : (xs.set i x)[j]? = some y) : (j = i ∧ y = x ∧ i < xs.length) ∨ (j ≠ i ∧ xs[j]? = some y) := by
  by_cases e : j = i
  · subst e
    by_cases hl : j < xs.length
    · rw [List.getElem?_set_self hl] at h; exact .inl ⟨rfl, (Option.some.inj h).symm, hl⟩
    · rw [List.getElem?_eq_none (by simpa using hl)] at h; cases h
  · rw [List.getElem?_set_ne (Ne.symm e)] at h; exact .inr ⟨e, h⟩
theorem set_get {α : Type} {xs : List α} {i j : Nat} {x : α} (e : j ≠ i) : (xs.set i x)[j]? = xs[j]? := List.getElem?_set_ne (Ne.symm e)
/-- a frozen value is stored in a slot -/
theorem SR.setF (s : SR K W ow H0 F0 lk σ H F ρ n) (r : Rep K W F v d) (how : ∀ j, j ∈ ow' ↔ j ∈ ow ∧ j ≠ i) : SR K W ow' H0 F0 lk (σ.set i (some v)) H F (ρ.set i (some d)) n where
  len := by rw [List.length_set, List.length_set]; exact s.len
  env := fun j e h hj => by
    rcases get_set h with ⟨rfl, e2, hl⟩ | ⟨ne, h⟩
    · cases e2
      exact ⟨v, List.getElem?_set_self (by rw [← s.len]; exact hl), r⟩
    · obtain ⟨u, h1, h2⟩ := s.env j e h fun z => hj ((how j).mpr ⟨z, ne⟩)
      exact ⟨u, by rw [set_get ne]; exact h1, h2⟩
  own := fun j e h hj => by
    obtain ⟨z, ne⟩ := (how j).mp hj
    rcases get_set h with ⟨rfl, e2, hl⟩ | ⟨ne, h⟩
    · exact absurd rfl ne
    · obtain ⟨a, h1, h2⟩ := s.own j e h z
      exact ⟨a, by rw [set_get ne]; exact h1, h2⟩
  sep := fun j k a d1 d2 hj hk h1 h2 h3 h4 => by
    obtain ⟨zj, nj⟩ := (how j).mp hj
    obtain ⟨zk, nk⟩ := (how k).mp hk
    rw [set_get nj] at h1 h3
    rw [set_get nk] at h2 h4
    exact s.sep j k a d1 d2 zj zk h1 h2 h3 h4
  f0 := s.f0
  new := s.new
  h0 := s.h0
  fz := s.fz
  wd := s.wd
/-- an owned value is stored in a slot -/
theorem SR.setO {a : Addr} (s : SR K W ow H0 F0 lk σ H F ρ n) (o : OwnAt K W H F a d) (h0 : H0 a = none) (ha : ∀ j, σ[j]? = some (some (.ref a)) → j ∈ ow → ∀ e, ρ[j]? ≠ some (some e)) (how : ∀ j, j ∈ ow' ↔ j ∈ ow ∨ j = i) : SR K W ow' H0 F0 lk (σ.set i (some (.ref a))) H F (ρ.set i (some d)) n where
  len := by rw [List.length_set, List.length_set]; exact s.len
  env := fun j e h hj => by
    rcases get_set h with ⟨rfl, e2, hl⟩ | ⟨ne, h⟩
    · exact absurd ((how j).mpr (.inr rfl)) hj
    · obtain ⟨u, h1, h2⟩ := s.env j e h fun z => hj ((how j).mpr (.inl z))
      exact ⟨u, by rw [set_get ne]; exact h1, h2⟩
  own := fun j e h hj => by
    rcases get_set h with ⟨rfl, e2, hl⟩ | ⟨ne, h⟩
    · cases e2
      exact ⟨a, List.getElem?_set_self (by rw [← s.len]; exact hl), o, h0⟩
    · rcases (how j).mp hj with z | z
      · obtain ⟨b, h1, h2⟩ := s.own j e h z
        exact ⟨b, by rw [set_get ne]; exact h1, h2⟩
      · exact absurd z ne
  sep := fun j k b d1 d2 hj hk h1 h2 h3 h4 => by
    by_cases ej : j = i
    · by_cases ek : k = i
      · rw [ej, ek]
      · subst ej
        rw [set_get ek] at h2 h4
        rcases get_set h3 with ⟨_, e3, _⟩ | ⟨ne, _⟩
        · cases e3
          rcases (how k).mp hk with z | z
          · exact absurd h2 (ha k h4 z d2)
          · exact absurd z ek
        · exact absurd rfl ne
    · rw [set_get ej] at h1 h3
      by_cases ek : k = i
      · subst ek
        rcases get_set h4 with ⟨_, e3, _⟩ | ⟨ne, _⟩
        · cases e3
          rcases (how j).mp hj with z | z
          · exact absurd h1 (ha j h3 z d1)
          · exact absurd z ej
        · exact absurd rfl ne
      · rw [set_get ek] at h2 h4
        rcases (how j).mp hj with zj | zj
        · rcases (how k).mp hk with zk | zk
          · exact s.sep j k b d1 d2 zj zk h1 h2 h3 h4
          · exact absurd zk ek
        · exact absurd zj ej
  f0 := s.f0
  new := s.new
  h0 := s.h0
  fz := s.fz
  wd := s.wd
/-- a slot's owned value is frozen -/
theorem SR.freeze (s : SR K W ow H0 F0 lk σ H F ρ n) (how : ∀ j, j ∈ ow' ↔ j ∈ ow ∧ j ≠ i) : ∃ F', Same F F' ∧ SR K W ow' H0 F0 lk σ H F' ρ n := by
  by_cases hi : i ∈ ow
  · cases hr : ρ[i]? with
    | none =>
      refine ⟨F, fun _ _ h => h, s.len, fun j e h hj => ?_, fun j e h hj => ?_, fun j k a d1 d2 hj hk => s.sep j k a d1 d2 ((how j).mp hj).1 ((how k).mp hk).1, s.f0, s.new, s.h0, s.fz, s.wd⟩
      · by_cases e2 : j = i
        · subst e2; rw [hr] at h; cases h
        · exact s.env j e h fun z => hj ((how j).mpr ⟨z, e2⟩)
      · exact s.own j e h ((how j).mp hj).1
    | some od =>
      cases od with
      | none =>
        refine ⟨F, fun _ _ h => h, s.len, fun j e h hj => ?_, fun j e h hj => ?_, fun j k a d1 d2 hj hk => s.sep j k a d1 d2 ((how j).mp hj).1 ((how k).mp hk).1, s.f0, s.new, s.h0, s.fz, s.wd⟩
        · by_cases e2 : j = i
          · subst e2; rw [hr] at h; cases h
          · exact s.env j e h fun z => hj ((how j).mpr ⟨z, e2⟩)
        · exact s.own j e h ((how j).mp hj).1
      | some d =>
        obtain ⟨a, ha, o, h0⟩ := s.own i d hr hi
        obtain ⟨F', sm, nw, fz, wd, rp⟩ := L3.freeze s.fz s.wd o
        refine ⟨F', sm, s.len, fun j e h hj => ?_, fun j e h hj => ?_, fun j k a d1 d2 hj hk => s.sep j k a d1 d2 ((how j).mp hj).1 ((how k).mp hk).1, s.f0.trans sm, fun b u hb => ?_, s.h0, fz, wd⟩
        · by_cases e2 : j = i
          · subst e2
            rw [hr] at h; cases h
            exact ⟨.ref a, ha, rp⟩
          · obtain ⟨u, h1, h2⟩ := s.env j e h fun z => hj ((how j).mpr ⟨z, e2⟩)
            exact ⟨u, h1, h2.same sm⟩
        · obtain ⟨zj, nj⟩ := (how j).mp hj
          obtain ⟨b, h1, ⟨q1, q2, u, q3, q4⟩, h3⟩ := s.own j e h zj
          refine ⟨b, h1, ⟨?_, q2, u, q3, q4.same sm⟩, h3⟩
          cases q : F' b with
          | none => rfl
          | some x =>
            rcases nw b x q with z | ⟨z, _⟩
            · rw [q1] at z; cases z
            · subst z
              exact absurd (s.sep i j b d e hi zj hr h ha h1).symm nj
        · rcases nw b u hb with z | ⟨rfl, z⟩
          · exact s.new b u z
          · exact .inr (.inl h0)
  · refine ⟨F, fun _ _ h => h, s.len, fun j e h hj => ?_, fun j e h hj => s.own j e h ((how j).mp hj).1, fun j k a d1 d2 hj hk => s.sep j k a d1 d2 ((how j).mp hj).1 ((how k).mp hk).1, s.f0, s.new, s.h0, s.fz, s.wd⟩
    exact s.env j e h fun z => hj ((how j).mpr ⟨z, fun e2 => hi (e2 ▸ z)⟩)
/-- less is known -/
theorem SR.less (s : SR K W ow H0 F0 lk σ H F ρ n) (hl : ρ'.length = ρ.length) (h : ∀ (i : Nat) (d : D), ρ'[i]? = some (some d) → ρ[i]? = some (some d)) : SR K W ow H0 F0 lk σ H F ρ' n where
  len := by rw [hl]; exact s.len
  env := fun i d e => s.env i d (h i d e)
  own := fun i d e => s.own i d (h i d e)
  sep := fun i j a d e hi hj h1 h2 => s.sep i j a d e hi hj (h i d h1) (h j e h2)
  f0 := s.f0
  new := s.new
  h0 := s.h0
  fz := s.fz
  wd := s.wd
end
/-- slots forgotten -/
def wipR (ρ : Ro) : List Nat → Ro
  | [] => ρ
  | v :: vs => (wipR ρ vs).set v none
theorem wipR_len (ρ : Ro) : ∀ vs : List Nat, (wipR ρ vs).length = ρ.length
  | [] => rfl
  | v :: vs => by unfold wipR; rw [List.length_set, wipR_len ρ vs]
theorem wipR_some {ρ : Ro} {i : Nat} {x : D} : ∀ {vs : List Nat}, (wipR ρ vs)[i]? = some (some x) → ρ[i]? = some (some x) ∧ i ∉ vs
  | [], h => ⟨h, by simp⟩
  | v :: vs, h => by
    unfold wipR at h
    rcases get_set h with ⟨_, e, _⟩ | ⟨ne, h⟩
    · cases e
    · obtain ⟨h1, h2⟩ := wipR_some h
      exact ⟨h1, by simp only [List.mem_cons, not_or]; exact ⟨ne, h2⟩⟩
theorem SR.wip {K : PySem.W.Frag} {W : Option Wd} {ow : List Nat} {H0 F0 : Hp} {lk : Lk} {σ : L2.St} {F H : Hp} {ρ : Ro} {n : Nat} (s : SR K W ow H0 F0 lk σ H F ρ n) (vs : List Nat) : SR K W ow H0 F0 lk σ H F (wipR ρ vs) n :=
  s.less (wipR_len ρ vs) fun i d e => (wipR_some e).1

section
variable {X : Cx} {W : Option Wd} {ow ow1 ow' owL : List Nat} {pos : Pos} {e : Expr} {st : Stmt} {sts : List Stmt} {f : Ro → M D} {F G : SF} {κ : Kd}
def nilS : SF := fun ρ => pure (.nx ρ)
def seqS (F G : SF) : SF := fun ρ => F ρ >>= fun o => match o with | .nx ρ' => G ρ' | o => pure o
theorem S_nil : VSs X W ow ow owL [] nilS := PSs.weak pss_nil fun Dn σ H ⟨H0, F0, lk, F, ρ, n, r, n', s, hf, q⟩ => by
  cases M.pure_some.mp hf
  exact q σ H F s
theorem tS_seq {Dn : Ends} {σ : L2.St} {H : Hp} (h : tS X.K W ow ow' owL (seqS F G) Dn σ H) : tSeq (tS X.K W ow ow1 owL F) (tS X.K W ow1 ow' owL G) Dn σ H := by
  obtain ⟨H0, F0, lk, F, ρ, n, r, n', s, hf, q⟩ := h
  obtain ⟨o, n1, h1, h2⟩ := M.bind_some.mp hf
  refine ⟨H0, F0, lk, F, ρ, n, o, n1, s, h1, ?_⟩
  cases o with
  | nx ρ1 => exact fun σ1 H1 F1 s1 => ⟨H0, F0, lk, F1, ρ1, n1, r, n', s1, h2, q⟩
  | rt d => cases M.pure_some.mp h2; exact q
  | bk ρ1 => cases M.pure_some.mp h2; exact q
  | ct ρ1 => cases M.pure_some.mp h2; exact q
theorem S_cons (h1 : VS X W ow ow1 owL st F) (h2 : VSs X W ow1 ow' owL sts G) : VSs X W ow ow' owL (st :: sts) (seqS F G) := PSs.weak (pss_cons h1 h2) fun _ _ _ h => tS_seq h
theorem S_one (h1 : VS X W ow ow' owL st F) : VSs X W ow ow' owL [st] F := pss_one h1
/-- a slot is frozen ahead of what follows -/
theorem S_freeze (i : Nat) (h : VSs X W ow1 ow' owL sts F) (how : ow1 = rmv i ow := by decide) : VSs X W ow ow' owL sts F := PSs.weak h fun Dn σ H ⟨H0, F0, lk, F, ρ, n, r, n', s, hf, q⟩ => by
  subst how
  obtain ⟨F', _, s'⟩ := s.freeze (i := i) fun j => mem_rmv
  exact ⟨H0, F0, lk, F', ρ, n, r, n', s', hf, q⟩
theorem S_freeze1 (i : Nat) (h : VS X W ow1 ow' owL st F) (how : ow1 = rmv i ow := by decide) : VS X W ow ow' owL st F := PS.weak h fun Dn σ H ⟨H0, F0, lk, F, ρ, n, r, n', s, hf, q⟩ => by
  subst how
  obtain ⟨F', _, s'⟩ := s.freeze (i := i) fun j => mem_rmv
  exact ⟨H0, F0, lk, F', ρ, n, r, n', s', hf, q⟩
def wipS (vs : List Nat) (F : SF) : SF := fun ρ => F (wipR ρ vs)
theorem S_wip (vs : List Nat) (h : VSs X W ow ow' owL sts F) : VSs X W ow ow' owL sts (wipS vs F) := PSs.weak h fun Dn σ H ⟨H0, F0, lk, F, ρ, n, r, n', s, hf, q⟩ => ⟨H0, F0, lk, F, _, n, r, n', s.wip vs, hf, q⟩
def retS (f : Ro → M D) : SF := fun ρ => f ρ >>= fun d => pure (.rt d)
theorem S_ret (h : VE X W ow .fz e f) : VS X W ow ow' owL (.Return (some e) pos) (retS f) := PS.weak (ps_ret h) fun Dn σ H ⟨H0, F0, lk, F, ρ, n, r, n', s, hf, q⟩ => by
  obtain ⟨d, n1, h1, h2⟩ := M.bind_some.mp hf
  cases M.pure_some.mp h2
  exact ⟨H0, F0, lk, F, ρ, n, d, _, s, h1, fun v H1 F1 e1 r1 => q v H1 F1 (s.ext e1).sh r1⟩
theorem S_retN : VS X W ow ow' owL (.Return none pos) (retS (cE .non)) := PS.weak ps_retN fun Dn σ H ⟨H0, F0, lk, F, ρ, n, r, n', s, hf, q⟩ => by
  obtain ⟨d, n1, h1, h2⟩ := M.bind_some.mp hf
  cases M.pure_some.mp h1
  cases M.pure_some.mp h2
  exact q _ H F s.sh .non
def dropS (f : Ro → M D) : SF := fun ρ => f ρ >>= fun _ => pure (.nx ρ)
theorem S_expr (h : VE X W ow κ e f) (hs : swapsWith e none pos.line X.env = pure false := by rfl) : VS X W ow ow owL (.Expr e pos) (dropS f) := PS.weak (ps_expr h hs) fun Dn σ H ⟨H0, F0, lk, F, ρ, n, r, n', s, hf, q⟩ => by
  obtain ⟨d, n1, h1, h2⟩ := M.bind_some.mp hf
  cases M.pure_some.mp h2
  exact ⟨H0, F0, lk, F, ρ, n, d, _, s, h1, fun v H1 F1 e1 r1 => q σ H1 F1 (s.ext e1)⟩
theorem S_pass : VS X W ow ow owL (.Pass pos) nilS := PS.weak ps_pass fun Dn σ H ⟨H0, F0, lk, F, ρ, n, r, n', s, hf, q⟩ => by
  cases M.pure_some.mp hf
  exact q σ H F s
def breakS : SF := fun ρ => pure (.bk ρ)
def contS : SF := fun ρ => pure (.ct ρ)
theorem S_break : VS X W owL ow' owL (.Break pos) breakS := PS.weak ps_break fun Dn σ H ⟨H0, F0, lk, F, ρ, n, r, n', s, hf, q⟩ => by
  cases M.pure_some.mp hf
  exact q σ H F s
theorem S_cont : VS X W owL ow' owL (.Continue pos) contS := PS.weak ps_continue fun Dn σ H ⟨H0, F0, lk, F, ρ, n, r, n', s, hf, q⟩ => by
  cases M.pure_some.mp hf
  exact q σ H F s
def ifS (t : Ro → M Bool) (F G : SF) : SF := fun ρ => t ρ >>= fun b => if b = true then F ρ else G ρ
theorem S_if {c : Expr} {A B : List Stmt} {t : Ro → M Bool} (hc : VT X W ow c t) (ha : VSs X W ow ow' owL A F) (hb : VSs X W ow ow' owL B G) : VS X W ow ow' owL (.If c A B pos) (ifS t F G) :=
  PS.weak (ps_if hc ha hb) fun Dn σ H ⟨H0, F0, lk, F, ρ, n, r, n', s, hf, q⟩ => by
    obtain ⟨b, n1, h1, h2⟩ := M.bind_some.mp hf
    refine ⟨H0, F0, lk, F, ρ, n, b, n1, s, h1, fun H1 F1 e1 => ?_⟩
    cases b with
    | true => exact iteT ⟨H0, F0, lk, F1, ρ, n1, r, n', s.ext e1, h2, q⟩
    | false => exact iteF ⟨H0, F0, lk, F1, ρ, n1, r, n', s.ext e1, h2, q⟩
/-- any end's own set may be named behind a block that never ends so -/
theorem OutOk.any {K : PySem.W.Frag} {owA : List Nat} {H0 F0 : Hp} {lk : Lk} {n : Nat} {Dn : Ends} {o : Out} (h : OutOk K W ow' owL H0 F0 lk n Dn o) (hn : ∀ ρ, o ≠ .nx ρ) : OutOk K W owA owL H0 F0 lk n Dn o := by
  cases o with
  | nx ρ => exact absurd rfl (hn ρ)
  | rt d => exact h
  | bk ρ => exact h
  | ct ρ => exact h
/-! stores -/
def setS (i : Nat) (f : Ro → M D) : SF := fun ρ => f ρ >>= fun d => pure (.nx (ρ.set i (some d)))
theorem S_set {i : Nat} {x : Str} {pos' : Pos} (hN : X.N.Nodup) (hi : X.N[i]? = some x) (hx : Loc X.env.scope x) (h : VE X W ow .fz e f) (how : ow' = rmv i ow := by decide) (hs : swapsWith e (some (.Name x pos')) pos.line X.env = pure false := by rfl)
    (hf : X.fn x = true ∨ X.env.scope.names.lookup x = some .local := by first | exact .inl rfl | exact .inr rfl | assumption) : VS X W ow ow' owL (.Assign [.Name x pos'] e pos) (setS i f) :=
  PS.weak (ps_set hN hi hx h hs hf) fun Dn σ H ⟨H0, F0, lk, F, ρ, n, r, n', s, hf, q⟩ => by
    obtain ⟨d, n1, h1, h2⟩ := M.bind_some.mp hf
    cases M.pure_some.mp h2
    subst how
    exact ⟨H0, F0, lk, F, ρ, n, d, _, s, h1, fun v H1 F1 e1 r1 => q _ H1 F1 ((s.ext e1).setF r1 fun j => mem_rmv)⟩
/-- a new object, owned by the slot -/
theorem SR.fresh {K : PySem.W.Frag} {H0 F0 : Hp} {lk : Lk} {σ : L2.St} {F H H' F' : Hp} {ρ : Ro} {n n' i : Nat} {a : Addr} {d : D} (s : SR K W ow H0 F0 lk σ H F ρ n) (e1 : Ext W lk H F n H' F' n') (o : OwnAt K W H' F' a d) (hn : H a = none) (how : ∀ j, j ∈ ow' ↔ j ∈ ow ∨ j = i) :
    SR K W ow' H0 F0 lk (σ.set i (some (.ref a))) H' F' (ρ.set i (some d)) n' := by
  refine (s.ext e1).setO o ?_ (fun j hj hjo e he => ?_) how
  · cases q : H0 a with
    | none => rfl
    | some u =>
      rcases s.h0 a u q o.2.1 with z | ⟨ob, z⟩
      · rw [hn] at z; cases z
      · rw [(s.fz.lk _ _ _ z).1] at hn; cases hn
  · obtain ⟨b, h1, ⟨_, _, u, h2, _⟩, _⟩ := s.own j e he hjo
    rw [hj] at h1
    cases h1
    rw [hn] at h2; cases h2
theorem S_setO {i : Nat} {x : Str} {pos' : Pos} (hN : X.N.Nodup) (hi : X.N[i]? = some x) (hx : Loc X.env.scope x) (h : VE X W ow .fr e f) (how : ow' = ins i ow := by decide) (hs : swapsWith e (some (.Name x pos')) pos.line X.env = pure false := by rfl)
    (hf : X.fn x = true ∨ X.env.scope.names.lookup x = some .local := by first | exact .inl rfl | exact .inr rfl | assumption) : VS X W ow ow' owL (.Assign [.Name x pos'] e pos) (setS i f) :=
  PS.weak (ps_set hN hi hx h hs hf) fun Dn σ H ⟨H0, F0, lk, F, ρ, n, r, n', s, hf, q⟩ => by
    obtain ⟨d, n1, h1, h2⟩ := M.bind_some.mp hf
    cases M.pure_some.mp h2
    refine ⟨H0, F0, lk, F, ρ, n, d, _, s, h1, fun v H1 F1 e1 r1 => ?_⟩
    obtain ⟨a, rfl, o, hn⟩ := r1
    subst how
    exact q _ H1 F1 (s.fresh e1 o hn fun j => mem_ins)
/-- x op= e of ints -/
def augS (i : Nat) (f : Ro → M D) (g : D → D → Option D) : SF := fun ρ => bin (nameE i) f g ρ >>= fun d => pure (.nx (ρ.set i (some d)))
theorem S_aug {i : Nat} {x : Str} {pos' : Pos} {op : Operator} {g : Int → Int → Int} (ho : PIp X op (ipI g)) (hN : X.N.Nodup) (hi : X.N[i]? = some x) (hx : Loc X.env.scope x) (h : VE X W ow κ e f) (hio : i ∉ ow)
    (hf : X.fn x = true ∨ X.env.scope.names.lookup x = some .local := by first | exact .inl rfl | exact .inr rfl | assumption) : VS X W ow ow owL (.AugAssign (.Name x pos') op e pos) (augS i f (intOp (fun _ _ => true) g)) :=
  PS.weak (ps_aug hN hi hx h ho hf) fun Dn σ H ⟨H0, F0, lk, F, ρ, n, r, n', s, hf, q⟩ => by
    obtain ⟨d, n1, h1, h2⟩ := M.bind_some.mp hf
    cases M.pure_some.mp h2
    obtain ⟨x, n2, y, h3, h4, h5⟩ := bin_some.mp h1
    obtain ⟨h6, e3⟩ := nameE_some.mp h3
    simp only at h6 e3
    subst e3
    obtain ⟨v, hv, rv⟩ := s.env i x h6 hio
    obtain ⟨a, b, rfl, rfl, _, rfl⟩ := intOp_some h5
    cases rv
    refine ⟨.int a, hv, H0, F0, lk, F, ρ, _, .int b, _, s, h4, fun u H1 F1 e1 r1 => ⟨a, b, rfl, r1.repB.int, ?_⟩⟩
    exact q _ H1 F1 ((s.ext e1).setF (.int _) fun j => ⟨fun z => ⟨z, fun e => hio (e ▸ z)⟩, fun z => z.1⟩)
end
end L3
namespace L3
open PySem PySem.Spec PyProof.Rows L2

/-! ### locks taken behind an evaluation, given back at an end -/
def NF (X : Cx) (d : Addr) : Prop := ∀ o' u', X.H_0 d ≠ some (.frz o' u')
def Lck (X : Cx) (P : Hp → Prop) (H : Hp) : Prop := P H ∨ ∃ d u, H d = some u ∧ IsDk u ∧ ∀ od, NF X d → P (upd H d (.frz od u))
def Unl (X : Cx) (P : Hp → Prop) (H : Hp) : Prop := P H ∨ ∃ d od u, H d = some (.frz od u) ∧ NF X d ∧ P (upd H d u)
section
variable {X : Cx}
theorem PE.lck {e : Expr} {t : TE} (h : PE X e t) : PE X e (fun σ H Q => t σ H fun x H1 => Lck X (Q x) H1) := by
  refine ⟨fun pins s σ H Q I hw => ?_⟩
  refine thn (h.run pins s σ H _ I hw) fun v s1 ⟨x, H1, I1, r1, q1⟩ => ?_
  rcases q1 with q | ⟨d, u, hd, mu, q⟩
  · exact ⟨x, H1, I1, r1, q⟩
  · obtain ⟨od, I2⟩ := I1.lock hd mu.mut
    exact ⟨x, _, I2, r1, q od (I1.nofrz hd mu.mut)⟩
theorem PE.unl {e : Expr} {t : TE} (h : PE X e t) : PE X e (fun σ H Q => t σ H fun x H1 => Unl X (Q x) H1) := by
  refine ⟨fun pins s σ H Q I hw => ?_⟩
  refine thn (h.run pins s σ H _ I hw) fun v s1 ⟨x, H1, I1, r1, q1⟩ => ?_
  rcases q1 with q | ⟨d, od, u, hd, nf, q⟩
  · exact ⟨x, H1, I1, r1, q⟩
  · exact ⟨x, _, I1.unlock hd nf, r1, q⟩
theorem PS.unl {st : Stmt} {t : TS} (h : PS X st t) : PS X st (fun D σ H => t ⟨fun σ' H' => Unl X (D.nx σ') H', fun v H' => Unl X (D.rt v) H', fun σ' H' => Unl X (D.bk σ') H', fun σ' H' => Unl X (D.ct σ') H'⟩ σ H) := by
  refine ⟨fun pins s σ H D I hw => ?_⟩
  refine thn (h.run pins s σ H _ I hw) fun f s1 q => ?_
  cases f with
  | next => 
    obtain ⟨σ', H', I2, q | ⟨d, od, u, hd, nf, q⟩⟩ := q
    · exact ⟨σ', H', I2, q⟩
    · exact ⟨σ', _, I2.unlock hd nf, q⟩
  | brk => 
    obtain ⟨σ', H', I2, q | ⟨d, od, u, hd, nf, q⟩⟩ := q
    · exact ⟨σ', H', I2, q⟩
    · exact ⟨σ', _, I2.unlock hd nf, q⟩
  | cont => 
    obtain ⟨σ', H', I2, q | ⟨d, od, u, hd, nf, q⟩⟩ := q
    · exact ⟨σ', H', I2, q⟩
    · exact ⟨σ', _, I2.unlock hd nf, q⟩
  | ret v => 
    obtain ⟨x, σ', H', I2, r, q | ⟨d, od, u, hd, nf, q⟩⟩ := q
    · exact ⟨x, σ', H', I2, r, q⟩
    · exact ⟨x, σ', _, I2.unlock hd nf, r, q⟩
end
/-- lk1 is lk, or one lock more -/
inductive Lk1 (X : Cx) (lk : Lk) (F : Hp) (H : Hp) : Lk → Hp → Prop
  | same : Lk1 X lk F H lk H
  | more {d : Addr} {o : Obj} {u : HO} : H d = some u → IsDk u → F d = some u → NF X d → Lk1 X lk F H ((d, o, u) :: lk) (upd H d (.frz o u))
section
variable {X : Cx} {K : PySem.W.Frag} {W : Option Wd} {ow : List Nat} {H0 F0 : Hp} {lk : Lk} {σ : L2.St} {F H : Hp} {ρ : Ro} {n : Nat} {d : Addr} {o : Obj} {u : HO}
theorem FOk.lock (fz : FOk lk F H) (h : H d = some u) (k : IsDk u) (f : F d = some u) : FOk ((d, o, u) :: lk) F (upd H d (.frz o u)) := by
  refine ⟨fun a x e => ?_, fun a ob x e => ?_⟩
  · by_cases ha : a = d
    · subst ha; rw [f] at e; cases e; exact .inr ⟨o, .head _⟩
    · rw [upd_ne ha]
      rcases fz.st a x e with z | ⟨ob, z⟩
      · exact .inl z
      · exact .inr ⟨ob, .tail _ z⟩
  · rcases List.mem_cons.mp e with e | e
    · cases e; exact ⟨upd_same, k, f⟩
    · obtain ⟨z1, z2, z3⟩ := fz.lk a ob x e
      refine ⟨?_, z2, z3⟩
      rw [upd_ne (fun z => by subst z; rw [h] at z1; cases z1; exact k)]
      exact z1
theorem WOk.lock (wd : WOk W H F n) (f : F d = some u) : WOk W (upd H d (.frz o u)) F n := by
  cases W with
  | none => trivial
  | some W0 =>
    refine ⟨?_, wd.2.1, wd.2.2⟩
    rw [upd_ne (fun z => by have := wd.2.1; rw [z, f] at this; cases this)]
    exact wd.1
theorem SH.lock (s : SH W H0 F0 lk H F n) (h : H d = some u) (k : IsDk u) (f : F d = some u) : SH W H0 F0 ((d, o, u) :: lk) (upd H d (.frz o u)) F n := by
  refine ⟨s.f0, s.new, fun a x e nw => ?_, s.fz.lock h k f, s.wd.lock f⟩
  by_cases ha : a = d
  · subst ha
    rcases s.h0 a x e nw with z | ⟨ob, z⟩
    · rw [h] at z; cases z; exact .inr ⟨o, .head _⟩
    · exact .inr ⟨ob, .tail _ z⟩
  · rw [upd_ne ha]
    rcases s.h0 a x e nw with z | ⟨ob, z⟩
    · exact .inl z
    · exact .inr ⟨ob, .tail _ z⟩
theorem SR.lock (s : SR K W ow H0 F0 lk σ H F ρ n) (h : H d = some u) (k : IsDk u) (f : F d = some u) : SR K W ow H0 F0 ((d, o, u) :: lk) σ (upd H d (.frz o u)) F ρ n := by
  have t := s.sh.lock (o := o) h k f
  refine ⟨s.len, s.env, fun i e hr hi => ?_, s.sep, t.f0, t.new, t.h0, t.fz, t.wd⟩
  obtain ⟨a, h1, ⟨q1, q2, x, q3, q4⟩, h3⟩ := s.own i e hr hi
  refine ⟨a, h1, ⟨q1, q2, x, ?_, q4⟩, h3⟩
  rw [upd_ne (fun z => by subst z; rw [f] at q1; cases q1)]
  exact q3
theorem FOk.unlock (fz : FOk ((d, o, u) :: lk) F H) (nd : ∀ ob x, (d, ob, x) ∉ lk) : FOk lk F (upd H d u) := by
  obtain ⟨h, k, f⟩ := fz.lk d o u (.head _)
  refine ⟨fun a x e => ?_, fun a ob x e => ?_⟩
  · by_cases ha : a = d
    · subst ha; rw [f] at e; cases e; exact .inl upd_same
    · rw [upd_ne ha]
      rcases fz.st a x e with z | ⟨ob, z⟩
      · exact .inl z
      · rcases List.mem_cons.mp z with z | z
        · cases z; exact absurd rfl ha
        · exact .inr ⟨ob, z⟩
  · obtain ⟨z1, z2, z3⟩ := fz.lk a ob x (.tail _ e)
    refine ⟨?_, z2, z3⟩
    rw [upd_ne (fun z => by subst z; exact nd _ _ e)]
    exact z1
theorem WOk.unlock (wd : WOk W H F n) (f : F d = some u) : WOk W (upd H d u) F n := by
  cases W with
  | none => trivial
  | some W0 =>
    refine ⟨?_, wd.2.1, wd.2.2⟩
    rw [upd_ne (fun z => by have := wd.2.1; rw [z, f] at this; cases this)]
    exact wd.1
theorem SH.lock_h0 (s : SH W H0 F0 lk H F n) (h : H d = some u) (k : IsDk u) (f : F d = some u) : (∀ x, H0 d = some x → x = u) ∧ ∀ ob x, (d, ob, x) ∉ lk := by
  have nl : ∀ ob x, (d, ob, x) ∉ lk := fun ob x z => by
    have := (s.fz.lk d ob x z).1
    rw [h] at this; cases this; exact k
  refine ⟨fun x e => ?_, nl⟩
  have nw : notW W d := by
    cases W with
    | none => trivial
    | some W0 => intro z; subst z; have := s.wd.2.1; rw [f] at this; cases this
  rcases s.h0 d x e nw with z | ⟨ob, z⟩
  · rw [h] at z; exact (Option.some.inj z).symm
  · exact absurd z (nl _ _)
theorem SH.unlock (s : SH W H0 F0 ((d, o, u) :: lk) H F n) (nd : (∀ x, H0 d = some x → x = u) ∧ ∀ ob x, (d, ob, x) ∉ lk) : SH W H0 F0 lk (upd H d u) F n := by
  obtain ⟨h, k, f⟩ := s.fz.lk d o u (.head _)
  refine ⟨s.f0, s.new, fun a x e nw => ?_, s.fz.unlock nd.2, s.wd.unlock f⟩
  by_cases ha : a = d
  · subst ha
    rw [nd.1 x e]
    exact .inl upd_same
  · rw [upd_ne ha]
    rcases s.h0 a x e nw with z | ⟨ob, z⟩
    · exact .inl z
    · rcases List.mem_cons.mp z with z | z
      · cases z; exact absurd rfl ha
      · exact .inr ⟨ob, z⟩
theorem SR.unlock (s : SR K W ow H0 F0 ((d, o, u) :: lk) σ H F ρ n) (nd : (∀ x, H0 d = some x → x = u) ∧ ∀ ob x, (d, ob, x) ∉ lk) : SR K W ow H0 F0 lk σ (upd H d u) F ρ n := by
  obtain ⟨h, k, f⟩ := s.fz.lk d o u (.head _)
  have t := s.sh.unlock nd
  refine ⟨s.len, s.env, fun i e hr hi => ?_, s.sep, t.f0, t.new, t.h0, t.fz, t.wd⟩
  obtain ⟨a, h1, ⟨q1, q2, x, q3, q4⟩, h3⟩ := s.own i e hr hi
  refine ⟨a, h1, ⟨q1, q2, x, ?_, q4⟩, h3⟩
  rw [upd_ne (fun z => by subst z; rw [f] at q1; cases q1)]
  exact q3
end

/-! ### targets -/
abbrev BF := D → Ro → Option Ro
def bindN (i : Nat) : BF := fun x ρ => some (ρ.set i (some x))
def bindL : List BF → List D → Ro → Option Ro
  | [], [], ρ => some ρ
  | b :: bs, x :: xs, ρ => (b x ρ).bind fun ρ' => bindL bs xs ρ'
  | _, _, _ => none
def bindT (bs : List BF) : BF := fun x ρ => match x with
  | .tup xs => bindL bs xs ρ
  | _ => none
def Off (sl : List Nat) (σ σ' : L2.St) : Prop := σ'.length = σ.length ∧ ∀ i, i ∉ sl → σ'[i]? = σ[i]?
def tG (K : PySem.W.Frag) (W : Option Wd) (ow sl : List Nat) (b : BF) : TG := fun v σ H Q =>
  ∃ H0 F0 lk F ρ n x ρ', SR K W ow H0 F0 lk σ H F ρ n ∧ Rep K W F v x ∧ b x ρ = some ρ' ∧ ∀ σ', SR K W ow H0 F0 lk σ' H F ρ' n → Off sl σ σ' → Q σ' H
def tGs (K : PySem.W.Frag) (W : Option Wd) (ow sl : List Nat) (bs : List BF) : TGs := fun vs σ H Q =>
  ∃ H0 F0 lk F ρ n xs ρ', SR K W ow H0 F0 lk σ H F ρ n ∧ Reps K W F vs xs ∧ bindL bs xs ρ = some ρ' ∧ ∀ σ', SR K W ow H0 F0 lk σ' H F ρ' n → Off sl σ σ' → Q σ' H
abbrev VG (X : Cx) (W : Option Wd) (ow sl : List Nat) (tg : Expr) (b : BF) : Prop := PG X tg (tG X.K W ow sl b)
abbrev VGs (X : Cx) (W : Option Wd) (ow sl : List Nat) (tg : List Expr) (b : List BF) : Prop := PGs X tg (tGs X.K W ow sl b)
theorem Off.refl (sl : List Nat) (σ : L2.St) : Off sl σ σ := ⟨rfl, fun _ _ => rfl⟩
theorem Off.trans {sl sl2 sl3 : List Nat} {σ σ1 σ2 : L2.St} (a : Off sl σ σ1) (b : Off sl2 σ1 σ2) (h1 : ∀ i ∈ sl, i ∈ sl3) (h2 : ∀ i ∈ sl2, i ∈ sl3) : Off sl3 σ σ2 :=
  ⟨b.1.trans a.1, fun i hi => (b.2 i fun z => hi (h2 i z)).trans (a.2 i fun z => hi (h1 i z))⟩
theorem Off.wipe {sl vs : List Nat} {σ σ' : L2.St} (a : Off sl (L2.wipe σ vs) σ') (h : ∀ i ∈ sl, i ∈ vs) : L2.wipe σ' vs = L2.wipe σ vs := by
  have wl : ∀ (τ : L2.St) (i : Nat) (vs : List Nat), i ∈ vs → (L2.wipe τ vs)[i]? = if i < τ.length then some none else none := by
    intro τ i vs
    induction vs with
    | nil => intro h; cases h
    | cons v vs ih =>
      intro hi
      show ((L2.wipe τ vs).set v none)[i]? = _
      by_cases e : i = v
      · subst e
        by_cases hl : i < τ.length
        · rw [List.getElem?_set_self (by rw [wipe_length]; exact hl), if_pos hl]
        · rw [List.getElem?_eq_none (by rw [List.length_set, wipe_length]; omega), if_neg hl]
      · rw [List.getElem?_set_ne (Ne.symm e)]
        exact ih ((List.mem_cons.mp hi).resolve_left e)
  have wo : ∀ (τ : L2.St) (i : Nat) (vs : List Nat), i ∉ vs → (L2.wipe τ vs)[i]? = τ[i]? := by
    intro τ i vs
    induction vs with
    | nil => intro _; rfl
    | cons v vs ih =>
      intro hi
      simp only [List.mem_cons, not_or] at hi
      show ((L2.wipe τ vs).set v none)[i]? = _
      rw [List.getElem?_set_ne (Ne.symm hi.1)]
      exact ih hi.2
  apply List.ext_getElem?
  intro i
  by_cases hi : i ∈ vs
  · rw [wl σ' i vs hi, wl σ i vs hi, a.1, wipe_length]
  · rw [wo σ' i vs hi, a.2 i fun z => hi (h i z)]
theorem PG.weak {X : Cx} {e : Expr} {t t' : TG} (h : PG X e t) (i : ∀ v σ H Q, t' v σ H Q → t v σ H Q) : PG X e t' := ⟨fun pins s σ H v u Q I r q => h.run pins s σ H v u Q I r (i v σ H Q q)⟩
theorem PGs.weak {X : Cx} {e : List Expr} {t t' : TGs} (h : PGs X e t) (i : ∀ v σ H Q, t' v σ H Q → t v σ H Q) : PGs X e t' := ⟨fun pins s σ H v u Q I r q => h.run pins s σ H v u Q I r (i v σ H Q q)⟩
section
variable {X : Cx} {W : Option Wd} {ow sl sl2 sl3 : List Nat} {pos : Pos} {e : Expr} {es : List Expr} {b : BF} {bs : List BF}
theorem G_name (i : Nat) {x : Str} (hN : X.N.Nodup) (hi : X.N[i]? = some x) (hx : Loc X.env.scope x) (ho : i ∉ ow) (hf : X.fn x = true ∨ X.env.scope.names.lookup x = some .local := by first | exact .inl rfl | exact .inr rfl | assumption) : VG X W ow [i] (.Name x pos) (bindN i) :=
  PG.weak (pg_name hN hi hx hf) fun v σ H Q ⟨H0, F0, lk, F, ρ, n, x, ρ', s, r, hb, q⟩ => by
    cases hb
    refine q _ (s.setF r fun j => ⟨fun z => ⟨z, fun e => ho (e ▸ z)⟩, fun z => z.1⟩) ⟨List.length_set, fun j hj => ?_⟩
    exact List.getElem?_set_ne (fun e => hj (by simp [e]))
theorem G_nil : VGs X W ow [] [] [] := PGs.weak pgs_nil fun vs σ H Q ⟨H0, F0, lk, F, ρ, n, xs, ρ', s, r, hb, q⟩ => by
  cases r with
  | nil => cases hb; exact ⟨rfl, q σ s (.refl _ _)⟩
  | cons _ _ => cases hb
theorem G_cons (h1 : VG X W ow sl e b) (h2 : VGs X W ow sl2 es bs) (m1 : ∀ i ∈ sl, i ∈ sl3) (m2 : ∀ i ∈ sl2, i ∈ sl3) (hs : (assignEach (e :: es) X.env).map (·.2) = assign e X.env :: (assignEach es X.env).map (·.2) := by rfl) : VGs X W ow sl3 (e :: es) (b :: bs) :=
  PGs.weak (pgs_cons h1 h2 hs) fun vs σ H Q ⟨H0, F0, lk, F, ρ, n, xs, ρ', s, r, hb, q⟩ => by
    cases r with
    | nil => cases hb
    | @cons v vs x xs h t =>
      have hb : ((b x ρ).bind fun ρ' => bindL bs xs ρ') = some ρ' := hb
      cases hx : b x ρ with
      | none => rw [hx] at hb; cases hb
      | some ρ1 =>
        rw [hx] at hb
        exact ⟨v, vs, rfl, H0, F0, lk, F, ρ, n, x, ρ1, s, h, hx, fun σ1 s1 o1 => ⟨H0, F0, lk, F, ρ1, n, xs, ρ', s1, t, hb, fun σ2 s2 o2 => q σ2 s2 (o1.trans o2 m1 m2)⟩⟩
theorem bindL_len : ∀ {bs : List BF} {xs : List D} {ρ ρ' : Ro}, bindL bs xs ρ = some ρ' → xs.length = bs.length
  | [], [], _, _, _ => rfl
  | b :: bs, x :: xs, ρ, ρ', h => by
    have h : ((b x ρ).bind fun ρ' => bindL bs xs ρ') = some ρ' := h
    cases hx : b x ρ with
    | none => rw [hx] at h; cases h
    | some ρ1 => rw [hx] at h; rw [List.length_cons, List.length_cons, bindL_len h]
  | [], _ :: _, _, _, h => by cases h
  | _ :: _, [], _, _, h => by cases h
theorem G_tup {k : Nat} (hc : X.calm = true) (h : VGs X W ow sl es bs) (hn : (assignEach es X.env).length = bs.length := by rfl) (hst : (assignEach es X.env).findIdx? (·.1) = none := by rfl) : VG X W ow sl (.Tuple es k pos) (bindT bs) :=
  PG.weak (pg_tup (n := bs.length) hc h hn hst) fun v σ H Q ⟨H0, F0, lk, F, ρ, n, x, ρ', s, r, hb, q⟩ => by
    unfold bindT at hb
    cases x with
    | tup xs =>
      obtain ⟨a, vs, rfl, fa, ha, rs⟩ := (RepB.tup s.fz (.inl r) : _)
      exact ⟨a, vs, rfl, .of ha, by rw [rs.length]; exact bindL_len hb, H0, F0, lk, F, ρ, n, xs, ρ', s, rs, hb, q⟩
    | _ => cases hb
end

/-! ### what is walked -/
def Later (κ : Kd) (W : Option Wd) (lk : Lk) (H1 F1 : Hp) (n1 : Nat) (H2 F2 : Hp) (n2 : Nat) : Prop := match κ with
  | .fz => Same F1 F2 ∧ FOk lk F2 H2 ∧ WOk W H2 F2 n2
  | _ => Ext W lk H1 F1 n1 H2 F2 n2
theorem Ext.later {κ : Kd} {W : Option Wd} {lk : Lk} {H1 F1 H2 F2 : Hp} {n1 n2 : Nat} (e : Ext W lk H1 F1 n1 H2 F2 n2) : Later κ W lk H1 F1 n1 H2 F2 n2 := by
  cases κ with
  | fz => exact ⟨e.f, e.fz, e.wd⟩
  | bw => exact e
  | fr => exact e
def Steps (K : PySem.W.Frag) (W : Option Wd) (lk : Lk) (κ : Kd) (H1 F1 : Hp) (n1 : Nat) (J : It) (xs : List D) : Prop := ∀ (i : Nat) (H2 F2 : Hp) (n2 : Nat), Later κ W lk H1 F1 n1 H2 F2 n2 →
  (∀ x, xs[i]? = some x → J.go i H2 ∧ ∀ v H3, J.yld i H2 v H3 → ∃ F3, Ext W lk H2 F2 n2 H3 F3 n2 ∧ Rep K W F3 v x) ∧ (xs.length ≤ i → J.stop i H2)
/-- what the lengths are bounded by -/
def szO : HO → Prop
  | .lst xs => xs.length ≤ sizeLine
  | .tup xs => xs.length ≤ sizeLine
  | .dK kvs => kvs.length ≤ sizeLine
  | .dT kvs => kvs.length ≤ sizeLine
  | .frz _ (.lst xs) => xs.length ≤ sizeLine
  | .frz _ (.dK kvs) => kvs.length ≤ sizeLine
  | .frz _ (.dT kvs) => kvs.length ≤ sizeLine
  | _ => True
def Sz (H : Hp) : Prop := ∀ a u, H a = some u → szO u
theorem Inv.sizes {X : Cx} {pins : List (Addr × Obj)} {σ : L2.St} {H : Hp} {s : Shared} (I : Inv X pins σ H s) : Sz H := fun a u e => by
  have x := I.hok a u e
  cases u with
  | lst xs => exact x.1
  | tup xs => exact x.1
  | dK kvs => exact x.1
  | dT kvs => exact x.1
  | frz o u =>
    cases u with
    | lst xs => exact x.2.1
    | dK kvs => exact x.2.1
    | dT kvs => exact x.2.1
    | _ => trivial
  | _ => trivial
theorem PI.sized {X : Cx} {tg e : Expr} {t : TI} (h : PI X tg e t) : PI X tg e (fun σ H R => t σ H fun J H' => Sz H' → R J H') := by
  refine ⟨fun pins s σ H R I hw => ?_⟩
  refine thn (h.run pins s σ H _ I hw) fun v s1 h1 => thn h1 fun itv s2 ⟨it, fp, tn, J, H', e, I2, T, st, f, q⟩ => ⟨it, fp, tn, J, H', e, I2, T, st, f, q (Inv.sizes I2)⟩
def tI (X : Cx) (W : Option Wd) (ow : List Nat) (κ : Kd) (f : Ro → M (List D)) : TI := fun σ H R =>
  ∃ H0 F0 lk F ρ n xs n', SR X.K W ow H0 F0 lk σ H F ρ n ∧ f ρ n = some (xs, n') ∧ ∀ J H1 F1 lk1 H1', Ext W lk H F n H1 F1 n' → Lk1 X lk F1 H1 lk1 H1' → Steps X.K W lk1 κ H1' F1 n' J xs → (Sz H1' → xs.length ≤ sizeLine) → R J H1'
abbrev VI (X : Cx) (W : Option Wd) (ow : List Nat) (κ : Kd) (tg e : Expr) (f : Ro → M (List D)) : Prop := PI X tg e (tI X W ow κ f)
theorem PI.weak {X : Cx} {tg e : Expr} {t t' : TI} (h : PI X tg e t) (i : ∀ σ H R, t' σ H R → t σ H R) : PI X tg e t' := ⟨fun pins s σ H Q I q => h.run pins s σ H Q I (i σ H Q q)⟩
def charD (c : Nat) : D := .str ⟨#[c]⟩
def iterD : D → Option (List D)
  | .lst xs => some xs
  | .tup xs => some xs
  | .rol xs => some xs
  | .str x => if x.length ≤ sizeLine then some (x.cps.toList.map charD) else none
  | .dK kvs => some (kvs.map fun p => kD p.1)
  | .dT kvs => some (kvs.map fun p => .tup (p.1.map kD))
  | _ => none
def iterE (f : Ro → M D) : Ro → M (List D) := fun ρ => f ρ >>= fun d => lo (iterD d)
section
variable {X : Cx} {W : Option Wd} {ow : List Nat} {tg e : Expr} {f : Ro → M D} {κ κ' : Kd} {lk : Lk} {H1 F1 : Hp} {n1 : Nat}
theorem steps_lst {K : PySem.W.Frag} {a : Addr} {vs : List V} {ds : List D} (r : Reps K W F1 vs ds) (hl : ∀ H2 F2 n2, Later κ W lk H1 F1 n1 H2 F2 n2 → Same F1 F2 ∧ FOk lk F2 H2 ∧ WOk W H2 F2 n2 ∧ SqL K H2 a vs) : Steps K W lk κ H1 F1 n1 (Itl K a) ds := by
  intro i H2 F2 n2 l
  obtain ⟨sm, fz, wd, h⟩ := hl H2 F2 n2 l
  refine ⟨fun x hx => ?_, fun hi => ⟨vs, h, by rw [r.length]; exact hi⟩⟩
  obtain ⟨v, hv, rv⟩ := r.get hx
  refine ⟨⟨vs, v, h, hv⟩, fun u H3 y => ?_⟩
  obtain ⟨rfl, y⟩ := y
  have := y vs h
  rw [hv] at this; cases this
  exact ⟨F2, .refl fz wd, rv.same sm⟩
theorem steps_tup {K : PySem.W.Frag} {a : Addr} {vs : List V} {ds : List D} (r : Reps K W F1 vs ds) (hl : ∀ H2 F2 n2, Later κ W lk H1 F1 n1 H2 F2 n2 → Same F1 F2 ∧ FOk lk F2 H2 ∧ WOk W H2 F2 n2 ∧ SqT K H2 a vs) : Steps K W lk κ H1 F1 n1 (Itt K a) ds := by
  intro i H2 F2 n2 l
  obtain ⟨sm, fz, wd, h⟩ := hl H2 F2 n2 l
  refine ⟨fun x hx => ?_, fun hi => ⟨vs, h, by rw [r.length]; exact hi⟩⟩
  obtain ⟨v, hv, rv⟩ := r.get hx
  refine ⟨⟨vs, v, h, hv⟩, fun u H3 y => ?_⟩
  obtain ⟨rfl, y⟩ := y
  have := y vs h
  rw [hv] at this; cases this
  exact ⟨F2, .refl fz wd, rv.same sm⟩
theorem Later.kept {F2 H2 : Hp} {n2 : Nat} (l : Later κ W lk H1 F1 n1 H2 F2 n2) : Same F1 F2 ∧ FOk lk F2 H2 ∧ WOk W H2 F2 n2 := by
  cases κ with
  | fz => exact l
  | bw => exact ⟨l.f, l.fz, l.wd⟩
  | fr => exact ⟨l.f, l.fz, l.wd⟩
theorem steps_str {K : PySem.W.Frag} {x : Str} (hx : strOk x = true) : Steps K W lk κ H1 F1 n1 (Its x) (x.cps.toList.map charD) := by
  intro i H2 F2 n2 l
  obtain ⟨sm, fz, wd⟩ := l.kept
  refine ⟨fun d hd => ?_, fun hi => ?_⟩
  · rw [List.getElem?_map] at hd
    cases hc : x.cps.toList[i]? with
    | none => rw [hc] at hd; cases hd
    | some c =>
      rw [hc] at hd; cases hd
      have hc' : x.cps[i]? = some c := by rw [← Array.getElem?_toList]; exact hc
      refine ⟨(Array.getElem?_eq_some_iff.mp hc').1, fun v H3 y => ?_⟩
      obtain ⟨rfl, c', h1, rfl⟩ := y
      rw [hc'] at h1; cases h1
      refine ⟨F2, .refl fz wd, .str _ ?_⟩
      unfold strOk at hx ⊢
      have := Array.all_eq_true'.mp hx c (by simpa using List.mem_of_getElem? hc)
      simpa using this
  · simp at hi
    exact hi
theorem kD_rep {K : PySem.W.Frag} {k : Key} (h : keyOk k = true) : Rep K W F1 (kV k) (kD k) := by
  cases k with
  | inl i => exact .int i
  | inr x => exact .str x h
theorem kDs_rep {K : PySem.W.Frag} : ∀ {ks : List Key}, ks.all keyOk = true → Reps K W F1 (ks.map kV) (ks.map kD)
  | [], _ => .nil
  | k :: ks, h => by
    rw [List.all_cons, Bool.and_eq_true] at h
    exact .cons (kD_rep h.1) (kDs_rep h.2)
theorem fst_get {κ' : Type} {kvs : List (κ' × V)} {kds : List (κ' × D)} (he : kvs.map Prod.fst = kds.map Prod.fst) {i : Nat} {p : κ' × D} (h : kds[i]? = some p) : ∃ v, kvs[i]? = some (p.1, v) := by
  have := congrArg (·[i]?) he
  simp only [List.getElem?_map, h, Option.map_some] at this
  cases hv : kvs[i]? with
  | none => rw [hv] at this; cases this
  | some q => rw [hv] at this; exact ⟨q.2, by rw [← Option.some.inj this]⟩
theorem steps_keysK {K : PySem.W.Frag} {d : Addr} {o : Obj} {kvs : List (Key × V)} {kds : List (Key × D)} (he : kvs.map Prod.fst = kds.map Prod.fst) (hl : (d, o, HO.dK kvs) ∈ lk) (hk : keysOk kds = true) : Steps K W lk κ H1 F1 n1 (Itk d o kvs) (kds.map fun p => kD p.1) := by
  intro i H2 F2 n2 l
  obtain ⟨sm, fz, wd⟩ := l.kept
  have hd := (fz.lk _ _ _ hl).1
  have hlen := len_keys he
  refine ⟨fun x hx => ?_, fun hi => ⟨hd, by simpa [hlen] using hi⟩⟩
  rw [List.getElem?_map] at hx
  cases hp : kds[i]? with
  | none => rw [hp] at hx; cases hx
  | some p =>
    rw [hp] at hx; cases hx
    obtain ⟨v, hv⟩ := fst_get he hp
    refine ⟨⟨hd, (List.getElem?_eq_some_iff.mp hv).1⟩, fun u H3 y => ?_⟩
    obtain ⟨rfl, k, v', h1, rfl⟩ := y
    rw [hv] at h1; cases h1
    exact ⟨F2, .refl fz wd, kD_rep (List.all_eq_true.mp hk p (List.mem_of_getElem? hp))⟩
theorem Ext.tupF {F2 H2 : Hp} {n2 : Nat} {q : Addr} {vs : List V} (fz : FOk lk F2 H2) (wd : WOk W H2 F2 n2) (h : H2 q = some (.tup vs)) : Ext W lk H2 F2 n2 H2 (upd F2 q (.tup vs)) n2 := by
  have sf : Same F2 (upd F2 q (.tup vs)) := fun b x e => by
    by_cases hb : b = q
    · subst hb
      rcases fz.st b x e with z | ⟨ob, z⟩
      · rw [h] at z; cases z; exact upd_same
      · have := (fz.lk _ _ _ z).1; rw [h] at this; cases this
    · rw [upd_ne hb]; exact e
  refine ⟨sf, fun b x e => ?_, fun _ _ e _ => e, ⟨fun b x e => ?_, fun b ob x e => ?_⟩, ?_⟩
  · by_cases hb : b = q
    · subst hb; exact .inr (.inr ⟨vs, h⟩)
    · rw [upd_ne hb] at e; exact .inl e
  · by_cases hb : b = q
    · subst hb; rw [upd_same] at e; cases e; exact .inl h
    · rw [upd_ne hb] at e; exact fz.st b x e
  · obtain ⟨z1, z2, z3⟩ := fz.lk b ob x e
    exact ⟨z1, z2, sf _ _ z3⟩
  · cases W with
    | none => trivial
    | some W0 =>
      refine ⟨wd.1, ?_, sf _ _ wd.2.2⟩
      rw [upd_ne (fun z => by have := wd.1; rw [z, h] at this; cases this)]
      exact wd.2.1
theorem steps_keysT {K : PySem.W.Frag} {d : Addr} {o : Obj} {kvs : List (List Key × V)} {kds : List (List Key × D)} (he : kvs.map Prod.fst = kds.map Prod.fst) (hl : (d, o, HO.dT kvs) ∈ lk) (hk : keysOkT kds = true) : Steps K W lk κ H1 F1 n1 (Itkt d o kvs) (kds.map fun p => .tup (p.1.map kD)) := by
  intro i H2 F2 n2 l
  obtain ⟨sm, fz, wd⟩ := l.kept
  have hd := (fz.lk _ _ _ hl).1
  have hlen := len_keys he
  refine ⟨fun x hx => ?_, fun hi => ⟨hd, by simpa [hlen] using hi⟩⟩
  rw [List.getElem?_map] at hx
  cases hp : kds[i]? with
  | none => rw [hp] at hx; cases hx
  | some p =>
    rw [hp] at hx; cases hx
    obtain ⟨v, hv⟩ := fst_get he hp
    refine ⟨⟨hd, (List.getElem?_eq_some_iff.mp hv).1⟩, fun u H3 y => ?_⟩
    obtain ⟨rfl, k, v', q, h1, rfl, hq⟩ := y
    rw [hv] at h1; cases h1
    exact ⟨_, Ext.tupF fz wd hq, .tup upd_same (kDs_rep (List.all_eq_true.mp hk p (List.mem_of_getElem? hp)))⟩
theorem RepB.okK {K : PySem.W.Frag} {H F : Hp} {v : V} {kds : List (Key × D)} (r : RepB K W H F v (.dK kds)) : keysOk kds = true := by
  rcases r with r | ⟨a, rfl, _, _, o, ho, hr⟩
  · cases r; assumption
  · cases hr; assumption
theorem RepB.okT {K : PySem.W.Frag} {H F : Hp} {v : V} {kds : List (List Key × D)} (r : RepB K W H F v (.dT kds)) : keysOkT kds = true := by
  rcases r with r | ⟨a, rfl, _, _, o, ho, hr⟩
  · cases r; assumption
  · cases hr; assumption
/-- a list, a tuple, a text, as it stands -/
def seqD : D → Option (List D)
  | .lst xs => some xs
  | .tup xs => some xs
  | .rol xs => some xs
  | .str x => if x.length ≤ sizeLine then some (x.cps.toList.map charD) else none
  | _ => none
def seqE (f : Ro → M D) : Ro → M (List D) := fun ρ => f ρ >>= fun d => lo (seqD d)
theorem seq_read {σ : L2.St} {H : Hp} {R : It → Hp → Prop} {H0 F0 : Hp} {lk : Lk} {F : Hp} {ρ : Ro} {n n' : Nat} {x : D} {xs : List D} (s : SR X.K W ow H0 F0 lk σ H F ρ n) (h1 : f ρ n = some (x, n')) (h3 : seqD x = some xs)
    (q : ∀ J H1 F1 lk1 H1', Ext W lk H F n H1 F1 n' → Lk1 X lk F1 H1 lk1 H1' → Steps X.K W lk1 κ H1' F1 n' J xs → (Sz H1' → xs.length ≤ sizeLine) → R J H1') :
    iList X.K (tV X.K W ow κ f) σ H R ∨ iTup X.K (tV X.K W ow κ f) σ H R ∨ iStr (tV X.K W ow κ f) σ H R := by
  cases x with
  | lst ds =>
    cases h3
    refine .inl ⟨H0, F0, lk, F, ρ, n, _, n', s, h1, fun v H1 F1 e1 r1 => ?_⟩
    cases κ with
    | fz =>
      cases r1 with
      | lst hF r => exact ⟨_, rfl, ⟨_, .of (e1.fz.lst hF)⟩, q _ H1 F1 lk H1 e1 .same (steps_lst r fun H2 F2 n2 l => ⟨l.1, l.2.1, l.2.2, .of (l.2.1.lst (l.1 _ _ hF))⟩) fun z => by rw [← r.length]; exact z _ _ (e1.fz.lst hF)⟩
    | bw =>
      rcases r1 with r1 | ⟨a, rfl, q1, q2, o, q3, q4⟩
      · cases r1 with
        | lst hF r => exact ⟨_, rfl, ⟨_, .of (e1.fz.lst hF)⟩, q _ H1 F1 lk H1 e1 .same (steps_lst r fun H2 F2 n2 l => ⟨l.f, l.fz, l.wd, .of (l.fz.lst (l.f _ _ hF))⟩) fun z => by rw [← r.length]; exact z _ _ (e1.fz.lst hF)⟩
      · cases q4 with
        | lst r => exact ⟨a, rfl, ⟨_, .of q3⟩, q _ H1 F1 lk H1 e1 .same (steps_lst r fun H2 F2 n2 l => ⟨l.f, l.fz, l.wd, .of (l.h _ _ q3 q2)⟩) fun z => by rw [← r.length]; exact z _ _ q3⟩
    | fr =>
      obtain ⟨a, rfl, ⟨q1, q2, o, q3, q4⟩, _⟩ := r1
      cases q4 with
      | lst r => exact ⟨a, rfl, ⟨_, .of q3⟩, q _ H1 F1 lk H1 e1 .same (steps_lst r fun H2 F2 n2 l => ⟨l.f, l.fz, l.wd, .of (l.h _ _ q3 q2)⟩) fun z => by rw [← r.length]; exact z _ _ q3⟩
  | tup ds =>
    cases h3
    refine .inr (.inl ⟨H0, F0, lk, F, ρ, n, _, n', s, h1, fun v H1 F1 e1 r1 => ?_⟩)
    obtain ⟨a, vs, rfl, fa, ha, r⟩ := r1.repB.tup e1.fz
    exact ⟨a, rfl, ⟨vs, .of ha⟩, q _ H1 F1 lk H1 e1 .same (steps_tup r fun H2 F2 n2 l => ⟨l.kept.1, l.kept.2.1, l.kept.2.2, .of (l.kept.2.1.tup (l.kept.1 _ _ fa))⟩) fun z => by rw [← r.length]; exact z _ _ ha⟩
  | rol ds =>
    cases h3
    refine .inl ⟨H0, F0, lk, F, ρ, n, _, n', s, h1, fun v H1 F1 e1 r1 => ?_⟩
    have : ∃ a vs, v = .ref a ∧ SqL X.K F1 a vs ∧ Reps X.K W F1 vs xs := by
      rcases r1.repB with r | ⟨a, rfl, _, _, o, ho, hr⟩
      · cases r with
        | rol h r => exact ⟨_, _, rfl, h, r⟩
      · cases hr
    obtain ⟨a, vs, rfl, hF, r⟩ := this
    refine ⟨a, rfl, ⟨vs, e1.fz.seq hF⟩, q _ H1 F1 lk H1 e1 .same (steps_lst r fun H2 F2 n2 l => ⟨l.kept.1, l.kept.2.1, l.kept.2.2, l.kept.2.1.seq (l.kept.1.seq hF)⟩) fun z => ?_⟩
    rw [← r.length]
    rcases e1.fz.seq hF with (w | ⟨o, w⟩) | ⟨o, its, m, _, _, _, _, w, rv⟩
    · exact z _ _ w
    · exact z _ _ w
    · rw [Vals.length rv, Array.length_toList]; exact w
  | str x =>
    have h3 : (if x.length ≤ sizeLine then some (x.cps.toList.map charD) else none) = some xs := h3
    split at h3
    · rename_i hle
      cases h3
      refine .inr (.inr ⟨H0, F0, lk, F, ρ, n, _, n', s, h1, fun v H1 F1 e1 r1 => ?_⟩)
      obtain ⟨rfl, ok⟩ := r1.repB.str
      exact ⟨x, rfl, q _ H1 F1 lk H1 e1 .same (steps_str ok) fun _ => by rw [List.length_map, Array.length_toList]; exact hle⟩
    · cases h3
  | _ => cases h3
theorem I_seq (h : VE X W ow κ e f) : VI X W ow κ tg e (seqE f) := by
  refine PI.weak (PI.or (pi_list h) (PI.or (pi_tup h) (pi_str h))) fun σ H R ⟨H0, F0, lk, F, ρ, n, xs, n', s, hf, q⟩ => ?_
  obtain ⟨x, n1, h1, h2⟩ := M.bind_some.mp hf
  obtain ⟨y, h3, e⟩ := lo_some.mp h2
  cases e
  exact seq_read s h1 h3 q
/-- any value that is walked, frozen -/
theorem I_any (h : VE X W ow .fz e f) : VI X W ow .fz tg e (iterE f) := by
  refine PI.weak (PI.or (pi_keys (PE.lck h)) (PI.or (pi_list h) (PI.or (pi_tup h) (pi_str h)))) fun σ H R ⟨H0, F0, lk, F, ρ, n, xs, n', s, hf, q⟩ => ?_
  obtain ⟨x, n1, h1, h2⟩ := M.bind_some.mp hf
  obtain ⟨y, h3, e⟩ := lo_some.mp h2
  cases e
  cases x with
  | dK kds =>
    cases h3
    refine .inl ⟨H0, F0, lk, F, ρ, n, _, n', s, h1, fun v H1 F1 e1 r1 => ?_⟩
    have ok := r1.repB.okK
    cases r1 with
    | @dK a kvs _ hF _ he hr =>
      rcases e1.fz.st a _ hF with hH | ⟨ob, hm⟩
      · refine .inr ⟨a, .dK kvs, hH, trivial, fun od nf => ⟨a, od, rfl, .inl ⟨kvs, upd_same, ?_⟩⟩⟩
        exact q _ H1 F1 _ _ e1 (.more hH trivial hF nf) (steps_keysK he (.head _) ok) fun z => by rw [List.length_map, ← len_keys he]; exact z _ _ upd_same
      · exact .inl ⟨a, ob, rfl, .inl ⟨kvs, (e1.fz.lk _ _ _ hm).1, q _ H1 F1 lk H1 e1 .same (steps_keysK he hm ok) fun z => by rw [List.length_map, ← len_keys he]; exact z _ _ (e1.fz.lk _ _ _ hm).1⟩⟩
  | dT kds =>
    cases h3
    refine .inl ⟨H0, F0, lk, F, ρ, n, _, n', s, h1, fun v H1 F1 e1 r1 => ?_⟩
    have ok := r1.repB.okT
    cases r1 with
    | @dT a kvs _ hF _ he hr =>
      rcases e1.fz.st a _ hF with hH | ⟨ob, hm⟩
      · refine .inr ⟨a, .dT kvs, hH, trivial, fun od nf => ⟨a, od, rfl, .inr ⟨kvs, upd_same, ?_⟩⟩⟩
        exact q _ H1 F1 _ _ e1 (.more hH trivial hF nf) (steps_keysT he (.head _) ok) fun z => by rw [List.length_map, ← len_keys he]; exact z _ _ upd_same
      · exact .inl ⟨a, ob, rfl, .inr ⟨kvs, (e1.fz.lk _ _ _ hm).1, q _ H1 F1 lk H1 e1 .same (steps_keysT he hm ok) fun z => by rw [List.length_map, ← len_keys he]; exact z _ _ (e1.fz.lk _ _ _ hm).1⟩⟩
  | lst ds => exact .inr (seq_read s h1 h3 q)
  | tup ds => exact .inr (seq_read s h1 h3 q)
  | rol ds => exact .inr (seq_read s h1 h3 q)
  | str ds => exact .inr (seq_read s h1 h3 q)
  | _ => cases h3
end
end L3
namespace L3
open PySem PySem.Spec PyProof.Rows L2

/-! ### for -/
def loopS (b : BF) (drop : List Nat) (body : SF) : List D → SF
  | [], ρ => pure (.nx ρ)
  | x :: xs, ρ => lo (b x ρ) >>= fun ρ1 => body ρ1 >>= fun o => match o with
    | .nx ρ2 => loopS b drop body xs (wipR ρ2 drop)
    | .ct ρ2 => loopS b drop body xs (wipR ρ2 drop)
    | .bk ρ2 => pure (.nx (wipR ρ2 drop))
    | .rt d => pure (.rt d)
def forS (src : Ro → M (List D)) (b : BF) (drop : List Nat) (body : SF) : SF := fun ρ => src ρ >>= fun xs => loopS b drop body xs (wipR ρ drop)
section
variable {X : Cx} {W : Option Wd} {ow sl owL : List Nat} {pos : Pos} {tg iter : Expr} {body : List Stmt} {src : Ro → M (List D)} {b : BF} {F : SF}
theorem loopS_cons {drop : List Nat} {x : D} {xs : List D} {ρ : Ro} {n n' : Nat} {r : Out} : loopS b drop F (x :: xs) ρ n = some (r, n') → ∃ ρ1 o n1, b x ρ = some ρ1 ∧ F ρ1 n = some (o, n1) ∧
    (match o with | .nx ρ2 => loopS b drop F xs (wipR ρ2 drop) n1 = some (r, n') | .ct ρ2 => loopS b drop F xs (wipR ρ2 drop) n1 = some (r, n') | .bk ρ2 => r = .nx (wipR ρ2 drop) ∧ n' = n1 | .rt d => r = .rt d ∧ n' = n1) := by
  intro h
  obtain ⟨ρ1, n0, h1, h2⟩ := M.bind_some.mp (show (lo (b x ρ) >>= fun ρ1 => F ρ1 >>= fun o => _) n = some (r, n') from h)
  obtain ⟨ρ1', h3, e⟩ := lo_some.mp h1
  cases e
  obtain ⟨o, n1, h4, h5⟩ := M.bind_some.mp h2
  refine ⟨ρ1, o, n1, h3, h4, ?_⟩
  cases o with
  | nx ρ2 => exact h5
  | ct ρ2 => exact h5
  | bk ρ2 => cases M.pure_some.mp h5; exact ⟨rfl, rfl⟩
  | rt d => cases M.pure_some.mp h5; exact ⟨rfl, rfl⟩
theorem SR.rebase {K : PySem.W.Frag} {H0 F0 : Hp} {lk : Lk} {σ : L2.St} {H F1 : Hp} {ρ : Ro} {n : Nat} (s : SR K W ow H0 F0 lk σ H F1 ρ n) : SR K W ow H0 F1 lk σ H F1 ρ n :=
  ⟨s.len, s.env, s.own, s.sep, fun _ _ h => h, fun _ _ h => .inl h, s.h0, s.fz, s.wd⟩
theorem SR.unbase {K : PySem.W.Frag} {H0 F0 : Hp} {lk : Lk} {σ : L2.St} {H F1 H' F' : Hp} {ρ' : Ro} {n n' : Nat} (s : SH W H0 F0 lk H F1 n) (s' : SR K W ow H0 F1 lk σ H' F' ρ' n') : SR K W ow H0 F0 lk σ H' F' ρ' n' :=
  ⟨s'.len, s'.env, s'.own, s'.sep, s.f0.trans s'.f0, fun a o h => (s'.new a o h).elim (s.new a o) .inr, s'.h0, s'.fz, s'.wd⟩
theorem SH.unbase {H0 F0 : Hp} {lk : Lk} {H F1 H' F' : Hp} {n n' : Nat} (s : SH W H0 F0 lk H F1 n) (s' : SH W H0 F1 lk H' F' n') : SH W H0 F0 lk H' F' n' :=
  ⟨s.f0.trans s'.f0, fun a o h => (s'.new a o h).elim (s.new a o) .inr, s'.h0, s'.fz, s'.wd⟩
theorem loop_out {drop : List Nat} : ∀ {xs : List D} {ρ : Ro} {n n' : Nat} {r : Out}, loopS b drop F xs ρ n = some (r, n') → (∃ ρ', r = .nx ρ') ∨ ∃ d, r = .rt d
  | [], ρ, n, n', r, h => by
    have h : (pure (Out.nx ρ) : M Out) n = some (r, n') := h
    cases M.pure_some.mp h; exact .inl ⟨_, rfl⟩
  | x :: xs, ρ, n, n', r, h => by
    obtain ⟨ρ1, o, n1, _, _, h3⟩ := loopS_cons h
    cases o with
    | nx ρ2 => exact loop_out h3
    | ct ρ2 => exact loop_out h3
    | bk ρ2 => exact .inl ⟨_, h3.1⟩
    | rt d => exact .inr ⟨_, h3.1⟩
theorem loop_read {K : PySem.W.Frag} {drop : List Nat} {σ : L2.St} {H : Hp} {Dn : Ends} {H0 F0 : Hp} {lk : Lk} {F1 : Hp} {ρ : Ro} {n1 n' : Nat} {xs : List D} {r : Out} {J : It} (s : SR K W ow H0 F0 lk σ H F1 ρ n1) (st : Steps K W lk .fz H F1 n1 J xs)
    (hl : loopS b drop F xs ρ n1 = some (r, n')) (q : OutOk K W ow owL H0 F0 lk n' Dn r) :
    ∃ W' : Nat → Nat → L2.St → Hp → Prop, (∃ m, W' 0 m σ H) ∧ ∀ i m σ H, W' i m σ H →
      (J.stop i H ∧ Dn.nx σ H) ∨ (J.go i H ∧ ∃ N : L2.St → Hp → Prop, (∀ σ' H', N σ' H' → ∃ m', m' < m ∧ W' (i + 1) m' σ' H') ∧ ∀ x H', J.yld i H x H' → tG K W ow sl b x σ H' fun σ2 H2 => tS K W ow ow ow F { Dn with nx := N, ct := N, bk := Dn.nx } σ2 H2) := by
  refine ⟨fun i m σ H => ∃ F2 ρ n, i + m = xs.length ∧ SR K W ow H0 F0 lk σ H F2 ρ n ∧ Same F1 F2 ∧ loopS b drop F (xs.drop i) ρ n = some (r, n'), ⟨xs.length, F1, ρ, n1, by omega, s, fun _ _ h => h, by simpa using hl⟩, ?_⟩
  rintro i m σ H ⟨F2, ρ, n, hm, s, sm, hl⟩
  obtain ⟨go, stop⟩ := st i H F2 n ⟨sm, s.fz, s.wd⟩
  by_cases hi : i < xs.length
  · obtain ⟨x, hx⟩ : ∃ x, xs[i]? = some x := ⟨xs[i], by simp [hi]⟩
    obtain ⟨g, y⟩ := go x hx
    have hd : xs.drop i = x :: xs.drop (i + 1) := by
      have : xs[i] = x := by simpa [hi] using hx
      rw [← this]
      exact List.drop_eq_getElem_cons hi
    rw [hd] at hl
    obtain ⟨ρ1, o, n2, h1, h2, h3⟩ := loopS_cons hl
    refine .inr ⟨g, fun σ' H' => ∃ F2 ρ n, i + 1 + (m - 1) = xs.length ∧ SR K W ow H0 F0 lk σ' H' F2 ρ n ∧ Same F1 F2 ∧ loopS b drop F (xs.drop (i + 1)) ρ n = some (r, n'), fun σ' H' h => ⟨m - 1, by omega, h⟩, fun v H' hy => ?_⟩
    obtain ⟨F3, e3, r3⟩ := y v H' hy
    have s3 := s.ext e3
    refine ⟨H0, F0, lk, F3, ρ, n, x, ρ1, s3, r3, h1, fun σ2 s2 _ => ⟨H0, F3, lk, F3, ρ1, n, o, n2, s2.rebase, h2, ?_⟩⟩
    have grow : ∀ {σ' : L2.St} {H4 F' : Hp} {ρ2 : Ro}, SR K W ow H0 F3 lk σ' H4 F' ρ2 n2 → loopS b drop F (xs.drop (i + 1)) (wipR ρ2 drop) n2 = some (r, n') → ∃ F2 ρ n, i + 1 + (m - 1) = xs.length ∧ SR K W ow H0 F0 lk σ' H4 F2 ρ n ∧ Same F1 F2 ∧ loopS b drop F (xs.drop (i + 1)) ρ n = some (r, n') :=
      fun {σ' H4 F' ρ2} s' h => ⟨F', _, n2, by omega, (s'.unbase s3.sh).wip drop, sm.trans (e3.f.trans s'.f0), h⟩
    cases o with
    | nx ρ2 => exact fun σ' H4 F' s' => grow s' h3
    | ct ρ2 => exact fun σ' H4 F' s' => grow s' h3
    | bk ρ2 =>
      obtain ⟨rfl, rfl⟩ := h3
      exact fun σ' H4 F' s' => q σ' H4 F' ((s'.unbase s3.sh).wip drop)
    | rt d =>
      obtain ⟨rfl, rfl⟩ := h3
      exact fun v' H4 F' s' rp => q v' H4 F' (s3.sh.unbase s') rp
  · rw [List.drop_eq_nil_of_le (by omega)] at hl
    have hl : (pure (Out.nx ρ) : M Out) n = some (r, n') := hl
    cases M.pure_some.mp hl
    exact .inl ⟨stop (by omega), q σ H F2 s⟩
theorem S_for {drop : List Nat} (hp : PassesOwn (model X.prog X.w) X.A X.env X.xe) (hc : X.calm = true) (hi : VI X W ow .fz tg iter src) (hg : VG X W ow sl tg b) (hb : VSs X W ow ow ow body F)
    (hs : ∀ x, foldedSetIterable iter X.env x = pure x := by intro _; rfl) : VS X W ow ow owL (.For tg iter body [] pos) (forS src b drop F) :=
  PS.weak (PS.unl (ps_for hp hc hi hg hb hs)) fun Dn σ H ⟨H0, F0, lk, F2, ρ, n, r, n', s, hf, q⟩ => by
    obtain ⟨xs, n1, h1, h2⟩ := M.bind_some.mp hf
    refine ⟨H0, F0, lk, F2, ρ, n, xs, n1, s, h1, fun J H1 F1 lk1 H1' e1 l1 st _ => ?_⟩
    have s1 := (s.ext e1).wip drop
    have ro := loop_out h2
    cases l1 with
    | same =>
      refine loop_read (owL := owL) s1 st h2 ?_
      rcases ro with ⟨ρ', rfl⟩ | ⟨d, rfl⟩
      · exact fun σ' H' F' s' => .inl (q σ' H' F' s')
      · exact fun v H' F' s' rp => .inl (q v H' F' s' rp)
    | @more d o u hH k hF nf =>
      have nd := s1.sh.lock_h0 hH k hF
      refine loop_read (owL := owL) (s1.lock (o := o) hH k hF) st h2 ?_
      rcases ro with ⟨ρ', rfl⟩ | ⟨d, rfl⟩
      · exact fun σ' H' F' s' => .inr ⟨d, o, u, (s'.fz.lk _ _ _ (.head _)).1, nf, q σ' _ F' (s'.unlock nd)⟩
      · exact fun v H' F' s' rp => .inr ⟨_, o, u, (s'.fz.lk _ _ _ (.head _)).1, nf, q v _ F' (s'.unlock nd) rp⟩

/-! ### while -/
def whileGo (drop : List Nat) (t : Ro → M Bool) (body : SF) : Nat → SF
  | 0, _ => fail
  | k + 1, ρ => t ρ >>= fun b => if b = true then body ρ >>= fun o => match o with
      | .nx ρ2 => whileGo drop t body k (wipR ρ2 drop)
      | .ct ρ2 => whileGo drop t body k (wipR ρ2 drop)
      | .bk ρ2 => pure (.nx (wipR ρ2 drop))
      | .rt d => pure (.rt d)
    else pure (.nx ρ)
def whileS (k : Nat) (drop : List Nat) (t : Ro → M Bool) (body : SF) : SF := fun ρ => whileGo drop t body k (wipR ρ drop)
theorem whileGo_some {drop : List Nat} {t : Ro → M Bool} {k : Nat} {ρ : Ro} {n n' : Nat} {r : Out} : whileGo drop t F (k + 1) ρ n = some (r, n') → ∃ b n1, t ρ n = some (b, n1) ∧ (b = false → r = .nx ρ ∧ n' = n1) ∧ (b = true → ∃ o n2, F ρ n1 = some (o, n2) ∧
    (match o with | .nx ρ2 => whileGo drop t F k (wipR ρ2 drop) n2 = some (r, n') | .ct ρ2 => whileGo drop t F k (wipR ρ2 drop) n2 = some (r, n') | .bk ρ2 => r = .nx (wipR ρ2 drop) ∧ n' = n2 | .rt d => r = .rt d ∧ n' = n2)) := by
  intro h
  obtain ⟨b, n1, h1, h2⟩ := M.bind_some.mp (show (t ρ >>= fun b => _) n = some (r, n') from h)
  refine ⟨b, n1, h1, fun e => ?_, fun e => ?_⟩
  · subst e; cases M.pure_some.mp h2; exact ⟨rfl, rfl⟩
  · subst e
    obtain ⟨o, n2, h3, h4⟩ := M.bind_some.mp h2
    refine ⟨o, n2, h3, ?_⟩
    cases o with
    | nx ρ2 => exact h4
    | ct ρ2 => exact h4
    | bk ρ2 => cases M.pure_some.mp h4; exact ⟨rfl, rfl⟩
    | rt d => cases M.pure_some.mp h4; exact ⟨rfl, rfl⟩
theorem S_while {c : Expr} {t : Ro → M Bool} {k : Nat} {drop : List Nat} (hp : PassesOwn (model X.prog X.w) X.A X.env X.xe) (hc : VT X W ow c t) (hb : VSs X W ow ow ow body F) : VS X W ow ow owL (.While c body [] pos) (whileS k drop t F) :=
  PS.weak (ps_while hp hc hb) fun Dn σ H ⟨H0, F0, lk, F2, ρ, n, r, n', s, hf, q⟩ => by
    refine ⟨fun m σ H => ∃ F2 ρ n, SR X.K W ow H0 F0 lk σ H F2 ρ n ∧ whileGo drop t F m ρ n = some (r, n'), ⟨k, F2, _, n, s.wip drop, hf⟩, ?_⟩
    rintro m σ H ⟨F2, ρ, n, s, hw⟩
    cases m with
    | zero => exact absurd hw (by simp [whileGo, fail])
    | succ m =>
      obtain ⟨b, n1, h1, h2, h3⟩ := whileGo_some hw
      refine ⟨H0, F0, lk, F2, ρ, n, b, n1, s, h1, fun H1 F1 e1 => ?_⟩
      have s1 := s.ext e1
      cases b with
      | false =>
        obtain ⟨rfl, rfl⟩ := h2 rfl
        exact iteF (q σ H1 F1 s1)
      | true =>
        obtain ⟨o, n2, h4, h5⟩ := h3 rfl
        refine iteT ⟨fun σ' H' => ∃ F2 ρ n, SR X.K W ow H0 F0 lk σ' H' F2 ρ n ∧ whileGo drop t F m ρ n = some (r, n'), fun σ' H' h => ⟨m, Nat.lt_succ_self m, h⟩, H0, F0, lk, F1, ρ, n1, o, n2, s1, h4, ?_⟩
        cases o with
        | nx ρ2 => exact fun σ' H' F' s' => ⟨F', _, n2, s'.wip drop, h5⟩
        | ct ρ2 => exact fun σ' H' F' s' => ⟨F', _, n2, s'.wip drop, h5⟩
        | bk ρ2 => obtain ⟨rfl, rfl⟩ := h5; exact fun σ' H' F' s' => q σ' H' F' (s'.wip drop)
        | rt d => obtain ⟨rfl, rfl⟩ := h5; exact fun v H' F' s' rp => q v H' F' s' rp

/-! ### range -/
def rngD (a b : Int) : List D := (List.range (b - a).toNat).map fun i => .int (a + (i : Nat))
def rngOk (a : Int) : Bool := decide (-(2 ^ 62) ≤ a) && decide (a < 2 ^ 62)
def rng1E (f : Ro → M D) : Ro → M (List D) := fun ρ => f ρ >>= fun d => lo (match d with | .int j => if (rngOk j && decide (j.toNat ≤ sizeLine)) = true then some (rngD 0 j) else none | _ => none)
def rng2E (f g : Ro → M D) : Ro → M (List D) := fun ρ => f ρ >>= fun d => g ρ >>= fun e => lo (match d, e with | .int i, .int j => if (rngOk i && rngOk j && decide ((j - i).toNat ≤ sizeLine)) = true then some (rngD i j) else none | _, _ => none)
theorem steps_rng {K : PySem.W.Frag} {lk : Lk} {κ : Kd} {H1 F1 : Hp} {n1 : Nat} {a b : Int} : Steps K W lk κ H1 F1 n1 (Itr a (b - a).toNat) (rngD a b) := by
  intro i H2 F2 n2 l
  obtain ⟨sm, fz, wd⟩ := l.kept
  refine ⟨fun x hx => ?_, fun hi => ?_⟩
  · unfold rngD at hx
    rw [List.getElem?_map] at hx
    cases hr : (List.range (b - a).toNat)[i]? with
    | none => rw [hr] at hx; cases hx
    | some j =>
      rw [hr] at hx
      have hi := (List.getElem?_eq_some_iff.mp hr)
      obtain ⟨hi, hj⟩ := hi
      simp at hj hi
      subst hj
      cases hx
      refine ⟨by show i < (b - a).toNat; omega, fun v H3 y => ?_⟩
      obtain ⟨rfl, rfl⟩ := y
      exact ⟨F2, .refl fz wd, .int _⟩
  · show (b - a).toNat ≤ i
    unfold rngD at hi
    simpa using hi
variable {f g : Ro → M D} {κ κa κb : Kd} {a e : Expr} {p q : Pos}
theorem I_range1 (h : VE X W ow κa a f) (hg : Gl X "range") (hm : X.mg "range" = none) (hs : starEach [a] X.env = [(false, eval a X.env)] := by rfl) : VI X W ow κ tg (.Call (.Name "range" p) [a] [] q) (rng1E f) :=
  PI.weak (pi_range1 hg hm (pa_cons h pa_nil hs) hs) fun σ H R ⟨H0, F0, lk, F, ρ, n, xs, n', s, hf, q⟩ => by
    obtain ⟨x, n1, h1, h2⟩ := M.bind_some.mp hf
    obtain ⟨y, h3, e⟩ := lo_some.mp h2
    cases e
    refine ⟨H0, F0, lk, F, ρ, n, x, n', s, h1, fun v H1 F1 e1 r1 => ?_⟩
    cases x with
    | int j =>
      simp only at h3
      split at h3
      · rename_i c
        cases h3
        unfold rngOk at c
        simp only [Bool.and_eq_true, decide_eq_true_eq] at c
        refine ⟨j, by rw [r1.repB.int], c.1.1, c.1.2, ?_⟩
        have := q (Itr 0 (j - 0).toNat) H1 F1 lk H1 e1 .same steps_rng (fun _ => by unfold rngD; simp only [List.length_map, List.length_range, Int.sub_zero]; exact c.2)
        simpa using this
      · cases h3
    | _ => cases h3
theorem I_range2 (ha : VE X W ow κa a f) (hb : VE X W ow κb e g) (hg : Gl X "range") (hm : X.mg "range" = none) (hs : starEach [a, e] X.env = [(false, eval a X.env), (false, eval e X.env)] := by rfl) (hs2 : starEach [e] X.env = [(false, eval e X.env)] := by rfl) : VI X W ow κ tg (.Call (.Name "range" p) [a, e] [] q) (rng2E f g) :=
  PI.weak (pi_range2 hg hm (pa_cons ha (pa_cons hb pa_nil hs2) (by rw [hs, hs2])) hs hs2) fun σ H R ⟨H0, F0, lk, F, ρ, n, xs, n', s, hf, q⟩ => by
    obtain ⟨x, n1, h1, h2⟩ := M.bind_some.mp hf
    obtain ⟨y, n2, h4, h5⟩ := M.bind_some.mp h2
    obtain ⟨z, h3, e⟩ := lo_some.mp h5
    cases e
    refine ⟨H0, F0, lk, F, ρ, n, x, n1, s, h1, fun v H1 F1 e1 r1 => ⟨H0, F0, lk, F1, ρ, n1, y, n', s.ext e1, h4, fun u H2 F2 e2 r2 => ?_⟩⟩
    cases x with
    | int i =>
      cases y with
      | int j =>
        simp only at h3
        split at h3
        · rename_i c
          cases h3
          unfold rngOk at c
          simp only [Bool.and_eq_true, decide_eq_true_eq] at c
          exact ⟨i, j, by rw [r1.repB.int, r2.repB.int], ⟨c.1.1.1, c.1.1.2, c.1.2.1, c.1.2.2⟩, q (Itr i (j - i).toNat) H2 F2 lk H2 (e1.trans s.wd e2) .same steps_rng (fun _ => by unfold rngD; simp only [List.length_map, List.length_range, Int.sub_zero]; exact c.2)⟩
        · cases h3
      | _ => cases h3
    | _ => cases h3
end
end L3
namespace L3
open PySem PySem.Spec PyProof.Rows L2

/-! ### list comprehensions -/
def lcGo (b : BF) (t : Ro → M Bool) (el : Ro → M D) (ρ : Ro) : List D → M (List D)
  | [] => pure []
  | x :: xs => lo (b x ρ) >>= fun ρ1 => t ρ1 >>= fun c => if c = true then el ρ1 >>= fun y => lcGo b t el ρ xs >>= fun ys => pure (y :: ys) else lcGo b t el ρ xs
def lcE (src : Ro → M (List D)) (vs : List Nat) (b : BF) (t : Ro → M Bool) (el : Ro → M D) : Ro → M D := fun ρ => src ρ >>= fun xs => lcGo b t el (wipR ρ vs) xs >>= fun ys => pure (.lst ys)
def yesT : Ro → M Bool := fun _ => pure true
theorem lcGo_cons {b : BF} {t : Ro → M Bool} {el : Ro → M D} {ρ : Ro} {x : D} {xs ys : List D} {n n' : Nat} : lcGo b t el ρ (x :: xs) n = some (ys, n') → ∃ ρ1 c n1, b x ρ = some ρ1 ∧ t ρ1 n = some (c, n1) ∧
    (c = false → lcGo b t el ρ xs n1 = some (ys, n')) ∧ (c = true → ∃ y n2 zs, el ρ1 n1 = some (y, n2) ∧ lcGo b t el ρ xs n2 = some (zs, n') ∧ ys = y :: zs) := by
  intro h
  obtain ⟨ρ1, n0, h1, h2⟩ := M.bind_some.mp (show (lo (b x ρ) >>= fun ρ1 => _) n = some (ys, n') from h)
  obtain ⟨ρ1', h3, e⟩ := lo_some.mp h1
  cases e
  obtain ⟨c, n1, h4, h5⟩ := M.bind_some.mp h2
  refine ⟨ρ1, c, n1, h3, h4, fun e => ?_, fun e => ?_⟩
  · subst e; exact h5
  · subst e
    obtain ⟨y, n2, h6, h7⟩ := M.bind_some.mp h5
    obtain ⟨zs, n3, h8, h9⟩ := M.bind_some.mp h7
    cases M.pure_some.mp h9
    exact ⟨y, n2, zs, h6, h8, rfl⟩
theorem lcGo_len {b : BF} {t : Ro → M Bool} {el : Ro → M D} {ρ : Ro} : ∀ {xs ys : List D} {n n' : Nat}, lcGo b t el ρ xs n = some (ys, n') → ys.length ≤ xs.length
  | [], ys, n, n', h => by
    have h : (pure [] : M (List D)) n = some (ys, n') := h
    cases M.pure_some.mp h; simp
  | x :: xs, ys, n, n', h => by
    obtain ⟨ρ1, c, n1, _, _, h3, h4⟩ := lcGo_cons h
    cases c with
    | false => have := lcGo_len (h3 rfl); simp; omega
    | true => obtain ⟨y, n2, zs, _, h6, rfl⟩ := h4 rfl; have := lcGo_len h6; simp; omega
section
variable {X : Cx} {W : Option Wd} {ow : List Nat} {lk : Lk} {K : PySem.W.Frag}
/-- the list that grows stands apart -/
theorem Ext.updD {H F H1 F1 : Hp} {n n1 : Nat} {p : Addr} {o : HO} (hw : WOk W H F n) (e : Ext W lk H F n H1 F1 n1) (hp : H p = none) (fp : F1 p = none) (no : ∀ ob u, o ≠ .frz ob u) (nl : ∀ ob u, (p, ob, u) ∉ lk) : Ext W lk H F n (upd H1 p o) F1 n1 := by
  refine ⟨e.f, e.new, fun a u h nw => ?_, ⟨fun a u h => ?_, fun a ob u h => ?_⟩, ?_⟩
  · rw [upd_ne (fun z => by subst z; rw [hp] at h; cases h)]
    exact e.h a u h nw
  · rw [upd_ne (fun z => by subst z; rw [fp] at h; cases h)]
    exact e.fz.st a u h
  · obtain ⟨z1, z2, z3⟩ := e.fz.lk a ob u h
    rw [upd_ne (fun z => by subst z; exact nl _ _ h)]
    exact ⟨z1, z2, z3⟩
  · cases W with
    | none => trivial
    | some W0 =>
      refine ⟨?_, e.wd.2.1, e.wd.2.2⟩
      rw [upd_ne (fun z => by have := hw.1; rw [z, hp] at this; cases this)]
      exact e.wd.1
theorem Ext.unlock {H F H1 F1 H2 F2 : Hp} {n n1 n2 : Nat} {d : Addr} {o : Obj} {u : HO} (hw : WOk W H F n) (fz : FOk lk F H) (e1 : Ext W lk H F n H1 F1 n1) (hH : H1 d = some u) (k : IsDk u) (hF : F1 d = some u) (e2 : Ext W ((d, o, u) :: lk) (upd H1 d (.frz o u)) F1 n1 H2 F2 n2) :
    Ext W lk H F n (upd H2 d u) F2 n2 := by
  have nl : ∀ ob x, (d, ob, x) ∉ lk := fun ob x z => by
    have := (e1.fz.lk d ob x z).1
    rw [hH] at this; cases this; exact k
  have nw : ∀ a xs, H a = some (.tup xs) → notW W a := fun a xs h => by
    cases W with
    | none => trivial
    | some W0 => intro z; subst z; rw [hw.1] at h; cases h
  refine ⟨e1.f.trans e2.f, fun a x h => ?_, fun a x h nw => ?_, e2.fz.unlock nl, e2.wd.unlock (e2.f _ _ hF)⟩
  · rcases e2.new a x h with z | z | ⟨xs, z⟩
    · exact e1.new a x z
    · right
      by_cases ha : a = d
      · subst ha; rw [upd_same] at z; cases z
      · rw [upd_ne ha] at z
        cases q : H a with
        | none => exact .inl rfl
        | some y =>
          by_cases nn : notW W a
          · rw [e1.h a y q nn] at z; cases z
          · cases W with
            | none => exact absurd trivial nn
            | some W0 =>
              have : a = W0.aw := Classical.not_not.mp nn
              subst this
              rw [e1.wd.1] at z; cases z
    · right
      by_cases ha : a = d
      · subst ha; rw [upd_same] at z; cases z
      · rw [upd_ne ha] at z
        cases q : H a with
        | none => exact .inl rfl
        | some y =>
          by_cases nn : notW W a
          · rw [e1.h a y q nn] at z; exact .inr ⟨xs, z⟩
          · cases W with
            | none => exact absurd trivial nn
            | some W0 =>
              have : a = W0.aw := Classical.not_not.mp nn
              subst this
              rw [e1.wd.1] at z; cases z
  · have h1 := e1.h a x h nw
    by_cases ha : a = d
    · subst ha; rw [hH] at h1; cases h1; exact upd_same
    · rw [upd_ne ha]
      exact e2.h a x (by rw [upd_ne ha]; exact h1) nw
/-- a block's slots are forgotten on both sides -/
theorem SR.wipe {H0 F0 : Hp} {σ : L2.St} {F H : Hp} {ρ : Ro} {n : Nat} (s : SR K W ow H0 F0 lk σ H F ρ n) (vs : List Nat) : SR K W ow H0 F0 lk (L2.wipe σ vs) H F (wipR ρ vs) n := by
  have wo : ∀ (τ : L2.St) (i : Nat) (vs : List Nat), i ∉ vs → (L2.wipe τ vs)[i]? = τ[i]? := by
    intro τ i vs
    induction vs with
    | nil => intro _; rfl
    | cons v vs ih =>
      intro hi
      simp only [List.mem_cons, not_or] at hi
      show ((L2.wipe τ vs).set v none)[i]? = _
      rw [List.getElem?_set_ne (Ne.symm hi.1)]
      exact ih hi.2
  refine ⟨by rw [wipR_len, wipe_length]; exact s.len, fun i d h hi => ?_, fun i d h hi => ?_, fun i j a d e hi hj h1 h2 h3 h4 => ?_, s.f0, s.new, s.h0, s.fz, s.wd⟩
  · obtain ⟨h1, h2⟩ := wipR_some h
    rw [wo σ i vs h2]; exact s.env i d h1 hi
  · obtain ⟨h1, h2⟩ := wipR_some h
    rw [wo σ i vs h2]; exact s.own i d h1 hi
  · obtain ⟨h1, q1⟩ := wipR_some h1
    obtain ⟨h2, q2⟩ := wipR_some h2
    rw [wo σ i vs q1] at h3
    rw [wo σ j vs q2] at h4
    exact s.sep i j a d e hi hj h1 h2 h3 h4
theorem Reps.snoc {F : Hp} {vs : List V} {ds : List D} {v : V} {d : D} (r : Reps K W F vs ds) (h : Rep K W F v d) : Reps K W F (vs ++ [v]) (ds ++ [d]) := r.append (.one h)

variable {elt tg iter : Expr} {ifs : List Expr} {scope : Scope} {own : List (Str × Nat)} {pos : Pos} {src : Ro → M (List D)} {κ : Kd} {sl : List Nat} {b : BF} {t : Ro → M Bool} {el : Ro → M D}
/-- the walk of a comprehension -/
theorem lc_read {σ : L2.St} {H0 F0 : Hp} {H F : Hp} {ρ : Ro} {n n' : Nat} {vs : List Nat} {xs ys : List D} {J : It} {Q : Addr → Hp → Prop} (hsl : ∀ i ∈ sl, i ∈ vs) (s : SR K W ow H0 F0 lk σ H F ρ n) (st : Steps K W lk κ H F n J xs)
    (hxs : xs.length ≤ sizeLine) (hl : lcGo b t el (wipR ρ vs) xs n = some (ys, n')) (p : Addr) (hp : H p = none) (q : ∀ H2 F2, Ext W lk H F n H2 F2 n' → OwnAt K W H2 F2 p (.lst ys) → Q p H2) :
    ∃ W' : Nat → Nat → Hp → Prop, (∃ m, W' 0 m (upd H p (.lst []))) ∧ ∀ i m H, W' i m H →
      (J.stop i H ∧ Q p H) ∨ (J.go i H ∧ ∃ Nx : Hp → Prop, (∀ H', Nx H' → ∃ m', m' < m ∧ W' (i + 1) m' H') ∧ ∀ x H', J.yld i H x H' → tG K W ow sl b x (L2.wipe σ vs) H' fun σ2 H2 => L2.wipe σ2 vs = L2.wipe σ vs ∧ tT K W ow t σ2 H2 fun c H3 =>
        if c = true then tV K W ow .fz el σ2 H3 fun y H4 => ∃ acc, H4 p = some (.lst acc) ∧ acc.length < sizeLine ∧ Nx (upd H4 p (.lst (acc ++ [y]))) else Nx H3) := by
  have fp := s.fz.none hp
  have nwp := notW_of_none s.wd hp
  have nl : ∀ ob u, (p, ob, u) ∉ lk := fun ob u z => by have := (s.fz.lk p ob u z).1; rw [hp] at this; cases this
  have keep : ∀ {H1 F1 : Hp} {n1 : Nat} {H2 F2 : Hp} {n2 : Nat} {vs : List V}, Ext W lk H1 F1 n1 H2 F2 n2 → H1 p = some (.lst vs) → F1 p = none → H2 p = some (.lst vs) ∧ F2 p = none := by
    intro H1 F1 n1 H2 F2 n2 vs e h1 f1
    refine ⟨e.h p _ h1 nwp, ?_⟩
    cases z : F2 p with
    | none => rfl
    | some u =>
      rcases e.new p u z with z | z | ⟨xs, z⟩
      · rw [f1] at z; cases z
      · rw [h1] at z; cases z
      · rw [h1] at z; cases z
  refine ⟨fun i m H1 => ∃ F1 n1 us ds zs, i + m = xs.length ∧ Ext W lk H F n H1 F1 n1 ∧ F1 p = none ∧ H1 p = some (.lst us) ∧ Reps K W F1 us ds ∧ lcGo b t el (wipR ρ vs) (xs.drop i) n1 = some (zs, n') ∧ ys = ds ++ zs ∧ ds.length ≤ i,
    ⟨xs.length, F, n, [], [], ys, by omega, Ext.updD s.wd s.refl hp fp (fun _ _ z => nomatch z) nl, fp, upd_same, .nil, by simpa using hl, rfl, Nat.zero_le _⟩, ?_⟩
  rintro i m H1 ⟨F1, n1, us, ds, zs, hm, e1, f1, h1, r1, hl, hy, hd⟩
  obtain ⟨go, stop⟩ := st i H1 F1 n1 e1.later
  by_cases hi : i < xs.length
  · obtain ⟨x, hx⟩ : ∃ x, xs[i]? = some x := ⟨xs[i], by simp [hi]⟩
    obtain ⟨g, y⟩ := go x hx
    have hdr : xs.drop i = x :: xs.drop (i + 1) := by
      have : xs[i] = x := by simpa [hi] using hx
      rw [← this]
      exact List.drop_eq_getElem_cons hi
    rw [hdr] at hl
    obtain ⟨ρ1, c, n2, hb, ht, hf, htr⟩ := lcGo_cons hl
    refine .inr ⟨g, fun H' => ∃ F1 n1 us ds zs, i + 1 + (m - 1) = xs.length ∧ Ext W lk H F n H' F1 n1 ∧ F1 p = none ∧ H' p = some (.lst us) ∧ Reps K W F1 us ds ∧ lcGo b t el (wipR ρ vs) (xs.drop (i + 1)) n1 = some (zs, n') ∧ ys = ds ++ zs ∧ ds.length ≤ i + 1,
      fun H' h => ⟨m - 1, by omega, h⟩, fun v H3 hv => ?_⟩
    obtain ⟨F3, e3, r3⟩ := y v H3 hv
    have e13 := e1.trans s.wd e3
    have s3 := (s.ext e13).wipe vs
    obtain ⟨k3, g3⟩ := keep e3 h1 f1
    refine ⟨H0, F0, lk, F3, _, n1, x, ρ1, s3, r3, hb, fun σ2 s2 o2 => ⟨o2.wipe hsl, H0, F0, lk, F3, ρ1, n1, c, n2, s2, ht, fun H4 F4 e4 => ?_⟩⟩
    obtain ⟨k4, g4⟩ := keep e4 k3 g3
    have e14 := e13.trans s.wd e4
    cases c with
    | false =>
      exact iteF ⟨F4, n2, us, ds, zs, by omega, e14, g4, k4, (r1.same e3.f).same e4.f, hf rfl, hy, by omega⟩
    | true =>
      obtain ⟨y, n5, ws, hel, hgo, rfl⟩ := htr rfl
      refine iteT ⟨H0, F0, lk, F4, ρ1, n2, y, n5, s2.ext e4, hel, fun u H5 F5 e5 r5 => ?_⟩
      obtain ⟨k5, g5⟩ := keep e5 k4 g4
      have rr := ((r1.same e3.f).same e4.f).same e5.f
      refine ⟨us, k5, by rw [r1.length]; omega, F5, n5, us ++ [u], ds ++ [y], ws, by omega, ?_, g5, upd_same, rr.snoc r5, hgo, by simp [hy], by simp; omega⟩
      exact Ext.updD s.wd (e14.trans s.wd e5) hp g5 (fun _ _ z => nomatch z) nl
  · rw [List.drop_eq_nil_of_le (by omega)] at hl
    have hl : (pure [] : M (List D)) n1 = some (zs, n') := hl
    cases M.pure_some.mp hl
    rw [List.append_nil] at hy
    subst hy
    exact .inl ⟨stop (by omega), q H1 F1 e1 ⟨f1, nwp, _, h1, .lst r1⟩⟩
/-- the end of a comprehension's walk, its lock given back -/
theorem lc_end {σ : L2.St} {H : Hp} {Qd : V → Hp → Prop} (hsl : ∀ i ∈ sl, i ∈ own.map (·.2)) (h : tV X.K W ow .fr (lcE src (own.map (·.2)) b t el) σ H Qd) :
    tLc (fun σ H R => tI X W ow κ src σ H fun J H' => Sz H' → R J H') (tG X.K W ow sl b) (tT X.K W ow t) (tV X.K W ow .fz el) (own.map (·.2)) σ H (fun v H1 => Unl X (Qd v) H1) := by
  obtain ⟨H0, F0, lk, F, ρ, n, d, n', s, hf, q⟩ := h
  obtain ⟨xs, n1, h1, h2⟩ := M.bind_some.mp hf
  obtain ⟨ys, n2, h3, h4⟩ := M.bind_some.mp h2
  cases M.pure_some.mp h4
  refine ⟨H0, F0, lk, F, ρ, n, xs, n1, s, h1, fun J H1 F1 lk1 H1' e1 l1 st big hz p hp => ?_⟩
  have s1 := s.ext e1
  have up : H p = none ∨ ∃ u, H p = some u := by cases H p <;> simp
  cases l1 with
  | same =>
    refine lc_read hsl s1 st (big hz) h3 p hp (Q := fun p H2 => Unl X (Qd (.ref p)) H2) fun H2 F2 e2 o => .inl (q _ H2 F2 (e1.trans s.wd e2) ⟨p, rfl, o, ?_⟩)
    rcases up with z | ⟨u, z⟩
    · exact z
    · rw [e1.h p u z o.2.1] at hp; cases hp
  | @more d o u hH k hF nf =>
    have s1' := s1.lock (o := o) hH k hF
    have hpd : p ≠ d := fun z => by subst z; rw [upd_same] at hp; cases hp
    refine lc_read hsl s1' st (big hz) h3 p hp (Q := fun p H2 => Unl X (Qd (.ref p)) H2) fun H2 F2 e2 ow2 => .inr ⟨d, o, u, (e2.fz.lk _ _ _ (.head _)).1, nf, q _ _ F2 (Ext.unlock s.wd s.fz e1 hH k hF e2) ⟨p, rfl, ?_, ?_⟩⟩
    · obtain ⟨z1, z2, x, z3, z4⟩ := ow2
      exact ⟨z1, z2, x, by rw [upd_ne hpd]; exact z3, z4⟩
    · rcases up with z | ⟨x, z⟩
      · exact z
      · have := e1.h p x z ow2.2.1
        rw [upd_ne hpd] at hp
        rw [hp] at this; cases this
abbrev Blk (X : Cx) (s : Shared) (H : Hp) (scope : Scope) (C : Addr) (cl : List (Str × Addr)) (fp : List Addr) : Cx := X.blk s H scope (compEnvC scope cl C X.env) fp
theorem V_lc (hc : X.calm = true) (hN : X.N.Nodup) (hi : VI X W ow κ tg iter src) (ok : BlkOk X.N X.env.scope scope own) (hsl : ∀ i ∈ sl, i ∈ own.map (·.2))
    (hg : ∀ (s : Shared) (H : Hp) (C : Addr) (cl : List (Str × Addr)) (fp : List Addr), VG (Blk X s H scope C cl fp) W ow sl tg b)
    (ht : ∀ (s : Shared) (H : Hp) (C : Addr) (cl : List (Str × Addr)) (fp : List Addr), PTs (Blk X s H scope C cl fp) ifs (tT X.K W ow t))
    (he : ∀ (s : Shared) (H : Hp) (C : Addr) (cl : List (Str × Addr)) (fp : List Addr), VE (Blk X s H scope C cl fp) W ow .fz elt el)
    (hs : ∀ x, foldedSetIterable iter X.env x = pure x := by intro _; rfl) : VE X W ow .fr (.ListComp elt [⟨tg, iter, ifs, 0⟩] scope pos) (lcE src (own.map (·.2)) b t el) :=
  PE.weak (PE.unl (pe_lc hc hN (L3.PI.sized hi) ok hg ht he hs)) fun _ _ _ h => lc_end hsl h
end
end L3
namespace L3
open PySem PySem.Spec PyProof.Rows L2

/-! ### defs -/
def runD (nl : Nat) (f : SF) (ds : List D) : M D := f (ds.map some ++ List.replicate nl none) >>= fun o => match o with
  | .rt d => pure d
  | .nx _ => pure .non
  | _ => fail
/-- a def that turns data to data -/
def spD (K : PySem.W.Frag) (W : Option Wd) (m : Nat) (g : List D → M D) : Sp := fun vs H Q _ =>
  ∃ lk F n ds d n', FOk lk F H ∧ WOk W H F n ∧ Reps K W F vs ds ∧ ds.length = m ∧ g ds n = some (d, n') ∧ ∀ v H' F', Ext W lk H F n H' F' n' → Rep K W F' v d → Q v H'
section
variable {P : Program} {w : World} {K : PySem.W.Frag} {mg : Str → Option Value} {base : Heap} {W : Option Wd}
theorem SR.begin {lk : Lk} {F H : Hp} {n : Nat} {vs : List V} {ds : List D} (N : List Str) (fz : FOk lk F H) (wd : WOk W H F n) (r : Reps K W F vs ds) : SR K W [] H F lk (L2.start N vs) H F (ds.map some ++ List.replicate (N.length - ds.length) none) n where
  len := by unfold L2.start; simp [r.length]
  env := fun i d h _ => by
    rw [List.getElem?_append] at h
    split at h
    · rename_i hl
      rw [List.getElem?_map] at h
      cases hd : ds[i]? with
      | none => rw [hd] at h; cases h
      | some e =>
        rw [hd] at h; cases h
        obtain ⟨v, hv, rv⟩ := r.get hd
        refine ⟨v, ?_, rv⟩
        unfold L2.start
        rw [List.getElem?_append_left (by rw [List.length_map]; exact (List.getElem?_eq_some_iff.mp hv).1), List.getElem?_map, hv] <;> rfl
    · have := List.mem_of_getElem? h
      rw [List.mem_replicate] at this
      cases this.2
  own := fun _ _ _ h => nomatch h
  sep := fun _ _ _ _ _ h => nomatch h
  f0 := fun _ _ h => h
  new := fun _ _ h => .inl h
  h0 := fun _ _ h _ => .inl h
  fz := fz
  wd := wd
theorem SH.ext {lk : Lk} {F H H' F' : Hp} {n n' : Nat} (fz0 : FOk lk F H) (s : SH W H F lk H' F' n') : Ext W lk H F n H' F' n' where
  f := s.f0
  new := s.new
  h := fun a o h nw => by
    rcases s.h0 a o h nw with z | ⟨ob, z⟩
    · exact z
    · have h1 := (fz0.lk _ _ _ z).1
      rw [h] at h1
      cases h1
  fz := s.fz
  wd := s.wd
/-- a def's promise by its body -/
theorem fn_ok {x qual : Str} {st : Stmt} {f : Addr} {fd : FuncData} {N ps : List Str} {k : Nat} {body : SF} {ow' owL : List Nat} (F : Fun K x qual st f fd) (S : FnScope N ps (defScope st)) (hn : N.length - ps.length = N.length - ps.length)
    (hb : ∀ (cdv : Value) (A : Around) (outer : List Env) (s : Shared) (H : Hp) (E : XK), Room k (A.deeper (envOfC qual (defScope st) s.heap.objs.size f cdv)) → VSs (cxOf CX0 P w K mg base N qual (defScope st) f cdv A outer s H E).nox W [] ow' owL (defBody st) body) :
    FnOk P w K mg base CX0 (k + 1) f fd ps (spD K W ps.length (runD (N.length - ps.length) body)) := by
  refine F.ok S (fun vs H Q E ⟨lk, F, n, ds, d, n', _, _, r, hl, _⟩ => by rw [r.length, hl]) fun cdv A outer s H vs Q E hr ⟨lk, F, n, ds, d, n', fz, wd, r, hl, hg, q⟩ => ?_
  refine ⟨_, hb cdv A outer s H E hr, ?_⟩
  obtain ⟨o, n1, h1, h2⟩ := M.bind_some.mp hg
  rw [← hl] at h1
  refine ⟨H, F, lk, F, _, n, o, n1, SR.begin N fz wd r, h1, ?_⟩
  cases o with
  | nx ρ => cases M.pure_some.mp h2; exact fun σ' H' F' s' => q _ H' F' (s'.sh.ext fz) .non
  | rt d' => cases M.pure_some.mp h2; exact fun v H' F' s' rp => q v H' F' (s'.ext fz) rp
  | bk ρ => exact absurd h2 (by simp [fail])
  | ct ρ => exact absurd h2 (by simp [fail])
end
section
variable {X : Cx} {W : Option Wd} {ow : List Nat} {pos p : Pos} {e : Expr} {es : List Expr} {fs : Ro → M (List D)} {g : List D → M D} {x : Str} {f : Addr} {fd : FuncData} {ps : List Str} {k m : Nat}
def callE (fs : Ro → M (List D)) (g : List D → M D) : Ro → M D := fun ρ => fs ρ >>= g
theorem V_call (F : FnOk X.prog X.w X.K X.mg X.base CX0 k f fd ps (spD X.K W m g)) (hr : Room k X.A) (hg : Gl X x) (hm : X.mg x = some (.ref f)) (hk : PySem.W.keepIn X.K (.ref f) = true) (hb : Binds X.K fd ps []) (ha : VA X W ow (e :: es) fs) (hlen : (e :: es).length = m)
    (hfs : ∀ ρ n ds n', fs ρ n = some (ds, n') → ds.length = (e :: es).length)
    (hdb : (x == ("__debug__" : Str)) = false := by decide) (he : starEach (e :: es) X.env = (false, eval e X.env) :: starEach es X.env := by rfl) (hpl : (backTo pos (starEach es X.env)).any (·.1) = false := by rfl) :
    VE X W ow .fz (.Call (.Name x p) (e :: es) [] pos) (callE fs g) :=
  PE.weak (pe_call F hr hg hm hk hb .nil pass0 ha hdb he hpl) fun σ H Q ⟨H0, F0, lk, F, ρ, n, d, n', s, hf, q⟩ => by
    obtain ⟨ds, n1, h1, h2⟩ := M.bind_some.mp hf
    refine ⟨H0, F0, lk, F, ρ, n, ds, n1, s, h1, fun vs H1 F1 e1 r1 => ?_⟩
    show spD X.K W m g (vs ++ []) H1 Q E0
    rw [List.append_nil]
    exact ⟨lk, F1, n1, ds, d, n', e1.fz, e1.wd, r1, by rw [hfs _ _ _ _ h1, hlen], h2, fun v H2 F2 e2 r2 => q v H2 F2 (e1.trans s.wd e2) r2⟩
theorem consA_len {h : Ro → M D} {g : Ro → M (List D)} {m : Nat} (hg : ∀ ρ n ds n', g ρ n = some (ds, n') → ds.length = m) : ∀ ρ n ds n', consA h g ρ n = some (ds, n') → ds.length = m + 1 := fun ρ n ds n' hf => by
  obtain ⟨x, n1, h1, h2⟩ := M.bind_some.mp hf
  obtain ⟨xs, n2, h3, h4⟩ := M.bind_some.mp h2
  cases M.pure_some.mp h4
  rw [List.length_cons, hg _ _ _ _ h3]
theorem nilA_len : ∀ ρ n ds n', nilA ρ n = some (ds, n') → ds.length = 0 := fun ρ n ds n' hf => by
  cases M.pure_some.mp hf; rfl
end

/-! ### dict displays -/
def dispK (ps : List (D × D)) : Option D := (ps.mapM fun p => (keyD p.1).map fun k => (k, p.2)).bind fun kds => if kds.length ≤ 15 then some (.dK kds) else none
end L3
namespace L3
open PySem PySem.Spec PyProof.Rows L2

/-! ### an owned object changes -/
section
variable {K : PySem.W.Frag} {W : Option Wd} {ow : List Nat} {H0 F0 : Hp} {lk : Lk} {σ : L2.St} {F H : Hp} {ρ : Ro} {n i : Nat} {d d' : D} {a : Addr} {o : HO}
theorem SR.own_lk (s : SR K W ow H0 F0 lk σ H F ρ n) (h : OwnAt K W H F a d) : ∀ ob u, (a, ob, u) ∉ lk := fun ob u z => by
  obtain ⟨q1, q2, x, q3, q4⟩ := h
  have := (s.fz.lk a ob u z).1
  rw [q3] at this; cases this; cases q4
theorem SR.upd (s : SR K W ow H0 F0 lk σ H F ρ n) (hi : i ∈ ow) (hr : ρ[i]? = some (some d)) (hs : σ[i]? = some (some (.ref a))) (h : OwnAt K W H F a d) (h0 : H0 a = none) (r : HRep K W F o d') : SR K W ow H0 F0 lk σ (upd H a o) F (ρ.set i (some d')) n := by
  have nl := s.own_lk h
  obtain ⟨fa, nw, x, hx, hr0⟩ := h
  refine ⟨by rw [List.length_set]; exact s.len, fun j e hj ho => ?_, fun j e hj ho => ?_, fun j k b d1 d2 hj hk h1 h2 h3 h4 => ?_, s.f0, s.new, fun b u hb hn => ?_, ⟨fun b u hb => ?_, fun b ob u hb => ?_⟩, ?_⟩
  · rcases get_set hj with ⟨rfl, _, _⟩ | ⟨ne, hj⟩
    · exact absurd hi ho
    · exact s.env j e hj ho
  · rcases get_set hj with ⟨rfl, e2, _⟩ | ⟨ne, hj⟩
    · cases e2
      exact ⟨a, hs, ⟨fa, nw, o, upd_same, r⟩, h0⟩
    · obtain ⟨b, q1, ⟨q2, q3, u, q4, q5⟩, q6⟩ := s.own j e hj ho
      refine ⟨b, q1, ⟨q2, q3, u, ?_, q5⟩, q6⟩
      rw [upd_ne (fun z => by subst z; exact ne (s.sep j i b e d ho hi hj hr q1 hs))]
      exact q4
  · have back : ∀ {j : Nat} {e : D}, (ρ.set i (some d'))[j]? = some (some e) → ∃ e', ρ[j]? = some (some e') := fun {j e} hj => by
      rcases get_set hj with ⟨rfl, _, _⟩ | ⟨ne, hj⟩
      · exact ⟨d, hr⟩
      · exact ⟨e, hj⟩
    obtain ⟨e1, h1⟩ := back h1
    obtain ⟨e2, h2⟩ := back h2
    exact s.sep j k b e1 e2 hj hk h1 h2 h3 h4
  · rw [upd_ne (fun z => by subst z; rw [h0] at hb; cases hb)]
    exact s.h0 b u hb hn
  · rw [upd_ne (fun z => by subst z; rw [fa] at hb; cases hb)]
    exact s.fz.st b u hb
  · obtain ⟨z1, z2, z3⟩ := s.fz.lk b ob u hb
    rw [upd_ne (fun z => by subst z; exact nl _ _ hb)]
    exact ⟨z1, z2, z3⟩
  · cases W with
    | none => trivial
    | some W0 =>
      refine ⟨?_, s.wd.2.1, s.wd.2.2⟩
      rw [upd_ne (fun z => nw z.symm)]
      exact s.wd.1
end

/-! ### methods of owned lists, as statements -/
/-- x.m(e), x owned: g tells what becomes of it -/
def mutS (i : Nat) (f : Ro → M D) (g : D → D → Option D) : SF := fun ρ => bin (nameE i) f g ρ >>= fun d => pure (.nx (ρ.set i (some d)))
section
variable {X : Cx} {W : Option Wd} {ow owL : List Nat} {pos p apos cpos : Pos} {x : Str} {e e2 : Expr} {f f2 : Ro → M D} {i : Nat} {κ κ2 : Kd}
theorem mutS_some {g : D → D → Option D} {ρ : Ro} {n n' : Nat} {r : Out} : mutS i f g ρ n = some (r, n') → ∃ x y d, ρ[i]? = some (some x) ∧ f ρ n = some (y, n') ∧ g x y = some d ∧ r = .nx (ρ.set i (some d)) := fun h => by
  obtain ⟨d, n1, h1, h2⟩ := M.bind_some.mp h
  cases M.pure_some.mp h2
  obtain ⟨x, n2, y, h3, h4, h5⟩ := bin_some.mp h1
  obtain ⟨h6, e3⟩ := nameE_some.mp h3
  simp only at h6 e3
  subst e3
  exact ⟨x, y, d, h6, h4, h5, rfl⟩
/-- what a method makes of a tracked list -/
def GMut (K : PySem.W.Frag) (W : Option Wd) (r : V → List V → Hp → VK → Prop) (g : D → D → Option D) : Prop := ∀ (lk : Lk) (H F : Hp) (a : Addr) (u : V) (d e z : D) (Q : VK), FOk lk F H → OwnAt K W H F a d → Rep K W F u e → g d e = some z →
  (∀ o, HRep K W F o z → Q .non (upd H a o)) → r (.ref a) [u] H Q
theorem own_list {K : PySem.W.Frag} {F H : Hp} {a : Addr} {ds : List D} (o : OwnAt K W H F a (.lst ds)) : ∃ vs, H a = some (.lst vs) ∧ Reps K W F vs ds := by
  obtain ⟨_, _, u, h, r⟩ := o
  cases r with
  | lst r => exact ⟨_, h, r⟩
theorem S_mutL {m : Str} {r : V → List V → Hp → VK → Prop} {g : D → D → Option D} (hg : GMut X.K W r g) (hgl : ∀ d e z, g d e = some z → ∃ ds, d = .lst ds)
    (hi : i ∈ ow)
    (hpe : PE X (.Call (.Attribute (.Name x p) m apos) [e] [] cpos) (tBM X.K "list" r (tVar i) (tCons (tV X.K W ow .fz f) tNil)))
    (hs : swapsWith (.Call (.Attribute (.Name x p) m apos) [e] [] cpos) none pos.line X.env = pure false := by rfl) :
    VS X W ow ow owL (.Expr (.Call (.Attribute (.Name x p) m apos) [e] [] cpos) pos) (mutS i f g) :=
  PS.weak (ps_expr hpe hs) fun Dn σ H ⟨H0, F0, lk, F, ρ, n, r, n', s, hf, q⟩ => by
    obtain ⟨x, y, d, h1, h2, h3, rfl⟩ := mutS_some hf
    obtain ⟨ds, rfl⟩ := hgl x y d h3
    obtain ⟨a, ha, o, h0⟩ := s.own i _ h1 hi
    obtain ⟨vs, hl, _⟩ := own_list o
    refine ⟨.ref a, ha, .inl ⟨rfl, _, .of hl⟩, H0, F0, lk, F, ρ, n, y, n', s, h2, fun u H1 F1 e1 r1 => ?_⟩
    have s1 := s.ext e1
    have o1 := o.ext e1
    exact hg lk H1 F1 a u _ y d _ e1.fz o1 r1 h3 fun ob hr => q σ _ F1 (s1.upd hi h1 ha o1 h0 hr)
def appD : D → D → Option D
  | .lst xs, y => if xs.length < sizeLine then some (.lst (xs ++ [y])) else none
  | _, _ => none
theorem gm_append {K : PySem.W.Frag} : GMut K W rAppend appD := by
  intro lk H F a u d e z Q fz o r hz q
  unfold appD at hz
  split at hz
  · split at hz
    · cases hz
      obtain ⟨vs, h, rs⟩ := own_list o
      exact ⟨a, vs, u, rfl, rfl, h, by rw [rs.length]; assumption, q _ (.lst (rs.snoc r))⟩
    · cases hz
  · cases hz
def extD : D → D → Option D
  | .lst xs, .lst ys => if xs.length + ys.length ≤ sizeLine then some (.lst (xs ++ ys)) else none
  | _, _ => none
theorem gm_extend {K : PySem.W.Frag} : GMut K W rExtend extD := by
  intro lk H F a u d e z Q fz o r hz q
  unfold extD at hz
  split at hz
  · split at hz
    · cases hz
      obtain ⟨vs, h, rs⟩ := own_list o
      obtain ⟨b, us, rfl, hb, rb⟩ := RepB.lst (H := H) fz (.inl r)
      exact ⟨a, b, vs, us, rfl, rfl, h, hb, by rw [rs.length, rb.length]; assumption, q _ (.lst (rs.append rb))⟩
    · cases hz
  · cases hz
theorem S_append (hv : PE X (.Name x p) (tVar i)) (hi : i ∈ ow) (he : VE X W ow .fz e f) (hs1 : starEach [e] X.env = [(false, eval e X.env)] := by rfl)
    (hbase : attributeBase (.Name x p) "append" X.env (eval (.Name x p) X.env) = eval (.Name x p) X.env := by rfl)
    (hfew : ((backTo cpos (starEach [e] X.env)).all (fun x => !x.1) && (backToKw cpos (keywordEach [] X.env)).all (fun x => x.1.isSome) && decide ([e].length + ([] : List Keyword).length + (if ([] : List Keyword).isEmpty then 0 else 1) < 30)) = true := by rfl)
    (hline : (apos.endLine == cpos.line) = true := by rfl) (hs : swapsWith (.Call (.Attribute (.Name x p) "append" apos) [e] [] cpos) none pos.line X.env = pure false := by rfl) :
    VS X W ow ow owL (.Expr (.Call (.Attribute (.Name x p) "append" apos) [e] [] cpos) pos) (mutS i f appD) :=
  S_mutL gm_append (fun d e z h => by unfold appD at h; split at h; exact ⟨_, rfl⟩; cases h) hi
    (pe_bm PySem.F.plainAttrs_list PySem.F.slot_list_append PySem.F.type_list_append mt_append hv (pa_cons he pa_nil hs1) hbase hfew hline hs1) hs
theorem S_extend (hv : PE X (.Name x p) (tVar i)) (hi : i ∈ ow) (he : VE X W ow .fz e f) (hs1 : starEach [e] X.env = [(false, eval e X.env)] := by rfl)
    (hbase : attributeBase (.Name x p) "extend" X.env (eval (.Name x p) X.env) = eval (.Name x p) X.env := by rfl)
    (hfew : ((backTo cpos (starEach [e] X.env)).all (fun x => !x.1) && (backToKw cpos (keywordEach [] X.env)).all (fun x => x.1.isSome) && decide ([e].length + ([] : List Keyword).length + (if ([] : List Keyword).isEmpty then 0 else 1) < 30)) = true := by rfl)
    (hline : (apos.endLine == cpos.line) = true := by rfl) (hs : swapsWith (.Call (.Attribute (.Name x p) "extend" apos) [e] [] cpos) none pos.line X.env = pure false := by rfl) :
    VS X W ow ow owL (.Expr (.Call (.Attribute (.Name x p) "extend" apos) [e] [] cpos) pos) (mutS i f extD) :=
  S_mutL gm_extend (fun d e z h => by unfold extD at h; split at h; exact ⟨_, rfl⟩; cases h) hi
    (pe_bm PySem.F.plainAttrs_list PySem.F.slot_list_extend PySem.F.type_list_extend mt_extend hv (pa_cons he pa_nil hs1) hbase hfew hline hs1) hs

/-! ### x[k] = e, x owned -/
def putKD {κ' : Type} [DecidableEq κ'] (kvs : List (κ' × D)) (k : κ') (v : D) : List (κ' × D) :=
  if (kvs.any fun kv => decide (kv.1 = k)) = true then kvs.map (fun kv => if kv.1 = k then (kv.1, v) else kv) else kvs ++ [(k, v)]
theorem put_rep {κ' : Type} [DecidableEq κ'] {K : PySem.W.Frag} {F : Hp} {k : κ'} {v : V} {d : D} (r : Rep K W F v d) {kvs : List (κ' × V)} {kds : List (κ' × D)} (e : kvs.map Prod.fst = kds.map Prod.fst) (rs : Reps K W F (kvs.map Prod.snd) (kds.map Prod.snd)) :
    (putK kvs k v).map Prod.fst = (putKD kds k d).map Prod.fst ∧ Reps K W F ((putK kvs k v).map Prod.snd) ((putKD kds k d).map Prod.snd) := by
  have any_eq : (kvs.any fun kv => decide (kv.1 = k)) = kds.any fun kv => decide (kv.1 = k) := by
    have h1 : (kvs.any fun kv => decide (kv.1 = k)) = (kvs.map Prod.fst).any fun x => decide (x = k) := by rw [List.any_map] <;> rfl
    have h2 : (kds.any fun kv => decide (kv.1 = k)) = (kds.map Prod.fst).any fun x => decide (x = k) := by rw [List.any_map] <;> rfl
    rw [h1, h2, e]
  unfold putK putKD
  rw [any_eq]
  split
  · have go : ∀ {kvs : List (κ' × V)} {kds : List (κ' × D)}, kvs.map Prod.fst = kds.map Prod.fst → Reps K W F (kvs.map Prod.snd) (kds.map Prod.snd) →
        (kvs.map fun kv => if kv.1 = k then (kv.1, v) else kv).map Prod.fst = (kds.map fun kv => if kv.1 = k then (kv.1, d) else kv).map Prod.fst ∧ Reps K W F ((kvs.map fun kv => if kv.1 = k then (kv.1, v) else kv).map Prod.snd) ((kds.map fun kv => if kv.1 = k then (kv.1, d) else kv).map Prod.snd) := by
      intro kvs
      induction kvs with
      | nil => intro kds e _; cases kds with
        | nil => exact ⟨rfl, .nil⟩
        | cons _ _ => simp at e
      | cons p kvs ih => intro kds e rs; cases kds with
        | nil => simp at e
        | cons q kds =>
          simp only [List.map_cons, List.cons.injEq] at e rs
          cases rs with
          | cons h t =>
            obtain ⟨i1, i2⟩ := ih e.2 t
            obtain ⟨p1, p2⟩ := p
            obtain ⟨q1, q2⟩ := q
            simp only at e h
            obtain ⟨rfl, _⟩ := e
            by_cases hk : p1 = k
            · simp only [List.map_cons, hk, if_true]
              exact ⟨by rw [i1], .cons r i2⟩
            · simp only [List.map_cons, hk, if_false]
              exact ⟨by rw [i1], .cons h i2⟩
    exact go e rs
  · rw [List.map_append, List.map_append, List.map_append, List.map_append, e]
    exact ⟨rfl, rs.append (.one r)⟩
theorem put_okK {kds : List (Key × D)} {k : Key} {d : D} (h : keysOk kds = true) (hk : keyOk k = true) : keysOk (putKD kds k d) = true := by
  unfold keysOk putKD at *
  split
  · rw [List.all_map, List.all_eq_true]
    intro p hp
    have := List.all_eq_true.mp h p hp
    simp only [Function.comp]
    split <;> exact this
  · rw [List.all_append, h]; simpa using hk
theorem put_okT {kds : List (List Key × D)} {k : List Key} {d : D} (h : keysOkT kds = true) (hk : k.all keyOk = true) : keysOkT (putKD kds k d) = true := by
  unfold keysOkT putKD at *
  split
  · rw [List.all_map, List.all_eq_true]
    intro p hp
    have := List.all_eq_true.mp h p hp
    simp only [Function.comp]
    split <;> exact this
  · rw [List.all_append, h]; simpa using hk
theorem RepB.kok {K : PySem.W.Frag} {H F : Hp} {v : V} {k : Key} (r : RepB K W H F v (kD k)) : keyOk k = true := by
  cases k with
  | inl i => rfl
  | inr x => exact r.str.2
theorem Reps.kok {K : PySem.W.Frag} {F : Hp} : ∀ {ks : List Key} {vs : List V}, Reps K W F vs (ks.map kD) → ks.all keyOk = true
  | [], _, _ => rfl
  | k :: ks, _, r => by
    cases r with
    | cons h t => rw [List.all_cons, Bool.and_eq_true]; exact ⟨RepB.kok (H := F) (.inl h), Reps.kok t⟩
def setD : D → D → D → Option D
  | .lst xs, .int i, v => (ixN xs.length i).map fun j => .lst (xs.set j v)
  | .dK kvs, k, v => (keyD k).bind fun k => if kvs.length < sizeLine then some (.dK (putKD kvs k v)) else none
  | .dT kvs, k, v => (keyT k).bind fun k => if kvs.length < sizeLine then some (.dT (putKD kvs k v)) else none
  | _, _, _ => none
def rSetK : V → V → V → Hp → (Hp → Prop) → Prop := fun o i v H Q => ∃ a H', o = .ref a ∧ DPut H a i v H' ∧ Q H'
theorem set_dict (hu : X.A.units + 100 < cLine) : PSet X rSetK := by
  intro pins s σ H o i v ov iv u Q I ro ri rv h
  obtain ⟨a, H', rfl, g, q⟩ := h
  obtain rfl : ov = Value.ref a := ro
  exact d_setItem (by omega) I g ri rv fun s' I' => ⟨H', I', q⟩
theorem PSet.or {t t' : TSet} (h : PSet X t) (h' : PSet X t') : PSet X (fun o i v H Q => t o i v H Q ∨ t' o i v H Q) := by
  intro pins s σ H o i v ov iv u Q I ro ri rv q
  rcases q with q | q
  · exact h pins s σ H o i v ov iv u Q I ro ri rv q
  · exact h' pins s σ H o i v ov iv u Q I ro ri rv q
theorem g_set {K : PySem.W.Frag} {lk : Lk} {H F : Hp} {a : Addr} {iv v : V} {d k e z : D} {Q : Hp → Prop} (fz : FOk lk F H) (o : OwnAt K W H F a d) (ri : RepB K W H F iv k) (r : Rep K W F v e) (hz : setD d k e = some z)
    (q : ∀ ob, HRep K W F ob z → Q (upd H a ob)) : rSetL (.ref a) iv v H Q ∨ rSetK (.ref a) iv v H Q := by
  unfold setD at hz
  split at hz
  · rename_i v' xs i
    obtain ⟨vs, h, rs⟩ := own_list o
    cases hj : ixN xs.length i with
    | none => rw [hj] at hz; cases hz
    | some j =>
      rw [hj] at hz; cases hz
      exact .inl ⟨a, vs, i, j, rfl, ri.int, h, by rw [rs.length]; exact hj, q _ (.lst (rs.set j r))⟩
  · rename_i k' v' kvs
    cases hk : keyD k with
    | none => rw [hk] at hz; cases hz
    | some k1 =>
      rw [hk] at hz
      have hz : (if kvs.length < sizeLine then some (D.dK (putKD kvs k1 e)) else none) = some z := hz
      split at hz
      · cases hz
        rw [keyD_some hk] at ri
        obtain ⟨fa, nw, x, hx, hr⟩ := o
        cases hr with
        | dK ok e1 rs =>
          obtain ⟨p1, p2⟩ := put_rep (k := k1) r e1 rs
          exact .inr ⟨a, _, rfl, .inl ⟨_, k1, hx, ri.key, by rw [len_keys e1]; assumption, rfl⟩, q _ (.dK (put_okK ok ri.kok) p1 p2)⟩
      · cases hz
  · rename_i k' v' kvs
    unfold keyT at hz
    cases k with
    | tup xs =>
      cases hk : keysD xs with
      | none => simp only [hk] at hz; cases hz
      | some k1 =>
        simp only [hk] at hz
        have hz : (if kvs.length < sizeLine then some (D.dT (putKD kvs k1 e)) else none) = some z := hz
        split at hz
        · cases hz
          obtain ⟨b, us, rfl, fb, hb, rb⟩ := ri.tup fz
          rw [keysD_some hk] at rb
          cases rb.keys
          obtain ⟨fa, nw, x, hx, hr⟩ := o
          cases hr with
          | dT ok e1 rs =>
            obtain ⟨p1, p2⟩ := put_rep (k := k1) r e1 rs
            exact .inr ⟨a, _, rfl, .inr ⟨_, k1, b, hx, rfl, hb, by rw [len_keys e1]; assumption, rfl⟩, q _ (.dT (put_okT ok rb.kok) p1 p2)⟩
        · cases hz
    | _ => cases hz
  · cases hz
def putS (i : Nat) (k f : Ro → M D) : SF := fun ρ => f ρ >>= fun v => nameE i ρ >>= fun x => k ρ >>= fun y => lo (setD x y v) >>= fun d => pure (.nx (ρ.set i (some d)))
theorem S_put {k : Expr} {fk : Ro → M D} {sp : Pos} (hu : X.A.units + 100 < cLine) (hv : PE X (.Name x p) (tVar i)) (hi : i ∈ ow) (hk : VE X W ow κ k fk) (he : VE X W ow .fz e f)
    (ha : ∀ v, assign (.Subscript (.Name x p) k sp) X.env v = (do
      let ov ← holding [v] (eval (.Name x p) X.env)
      let iv ← holding [v, ov] (eval k X.env)
      standAt sp
      holding [v, ov, iv] (setItem ov iv v)
      release [v, ov, iv] []) := by intro _; rfl)
    (hs : swapsWithSole [.Subscript (.Name x p) k sp] e pos.line X.env = pure false := by rfl) (hw : swappedStores [.Subscript (.Name x p) k sp] e X.env = pure none := by rfl)
    (h1 : (assignEach [.Subscript (.Name x p) k sp] X.env).map (·.2) = [assign (.Subscript (.Name x p) k sp) X.env] := by rfl) :
    VS X W ow ow owL (.Assign [.Subscript (.Name x p) k sp] e pos) (putS i fk f) :=
  PS.weak (ps_asg he (pg_sub hv hk (PSet.or set_list (set_dict hu)) ha) hs hw h1) fun Dn σ H ⟨H0, F0, lk, F, ρ, n, r, n', s, hf, q⟩ => by
    obtain ⟨v, n1, h1, h2⟩ := M.bind_some.mp hf
    obtain ⟨x, n2, h3, h4⟩ := M.bind_some.mp h2
    obtain ⟨y, n3, h5, h6⟩ := M.bind_some.mp h4
    obtain ⟨d, n4, h7, h8⟩ := M.bind_some.mp h6
    obtain ⟨d', h9, e9⟩ := lo_some.mp h7
    cases e9
    cases M.pure_some.mp h8
    obtain ⟨hx, e3⟩ := nameE_some.mp h3
    simp only at hx e3
    subst e3
    refine ⟨H0, F0, lk, F, ρ, n, v, _, s, h1, fun u H1 F1 e1 r1 => ?_⟩
    have s1 := s.ext e1
    obtain ⟨a, ha, o, h0⟩ := s1.own i _ hx hi
    refine ⟨.ref a, ha, H0, F0, lk, F1, ρ, _, y, _, s1, h5, fun w H2 F2 e2 r2 => ?_⟩
    exact g_set e2.fz (o.ext e2) r2.repB (r1.same e2.f) h9 fun ob hr => q σ _ F2 ((s1.ext e2).upd hi hx ha (o.ext e2) h0 hr)
end
end L3
namespace L3
open PySem PySem.Spec PyProof.Rows L2

/-! ### several targets at once, their values frozen or new -/
abbrev KF := List (Kd × (Ro → M D))
def evalK : KF → Ro → M (List D)
  | [], _ => pure []
  | (_, f) :: fs, ρ => f ρ >>= fun d => evalK fs ρ >>= fun ds => pure (d :: ds)
def tKs (K : PySem.W.Frag) (W : Option Wd) (ow : List Nat) : KF → TA
  | [] => tNil
  | (κ, f) :: fs => tCons (tV K W ow κ f) (tKs K W ow fs)
section
variable (K : PySem.W.Frag) (W : Option Wd) (H H' F' : Hp)
inductive ResL : List Kd → List V → List D → List Addr → Prop
  | nil : ResL [] [] [] []
  | fz {κs vs ds as v d} : Rep K W F' v d → ResL κs vs ds as → ResL (.fz :: κs) (v :: vs) (d :: ds) as
  | fr {κs vs ds as a d} : OwnAt K W H' F' a d → H a = none → a ∉ as → ResL κs vs ds as → ResL (.fr :: κs) (.ref a :: vs) (d :: ds) (a :: as)
end
def owA (ow : List Nat) : List Nat → List Kd → List Nat
  | i :: is, .fr :: κs => owA (ins i ow) is κs
  | i :: is, _ :: κs => owA (rmv i ow) is κs
  | _, _ => ow
def setLR (ρ : Ro) : List Nat → List D → Ro
  | i :: is, d :: ds => setLR (ρ.set i (some d)) is ds
  | _, _ => ρ
def setLV (σ : L2.St) : List Nat → List V → L2.St
  | i :: is, d :: ds => setLV (σ.set i (some d)) is ds
  | _, _ => σ
section
variable {K : PySem.W.Frag} {W : Option Wd} {ow : List Nat} {H0 F0 : Hp} {lk : Lk} {σ : L2.St} {F H H1 F1 H2 F2 : Hp} {ρ : Ro} {n n1 n2 : Nat}
theorem ResL.noH {κs : List Kd} {vs : List V} {ds : List D} {as : List Addr} (r : ResL K W H H1 F1 κs vs ds as) : ∀ a ∈ as, H a = none ∧ ∃ d, OwnAt K W H1 F1 a d := by
  induction r with
  | nil => intro a h; cases h
  | fz _ _ ih => exact ih
  | fr o hn _ _ ih =>
    intro a h
    rcases List.mem_cons.mp h with rfl | h
    · exact ⟨hn, _, o⟩
    · exact ih a h
theorem ResL.ext {κs : List Kd} {vs : List V} {ds : List D} {as : List Addr} (r : ResL K W H H1 F1 κs vs ds as) (e : Ext W lk H1 F1 n1 H2 F2 n2) : ResL K W H H2 F2 κs vs ds as := by
  induction r with
  | nil => exact .nil
  | fz r _ ih => exact .fz (r.same e.f) ih
  | fr o hn ha _ ih => exact .fr (o.ext e) hn ha ih
theorem ResL.start {κs : List Kd} {vs : List V} {ds : List D} {as : List Addr} (r : ResL K W H1 H2 F2 κs vs ds as) (e : Ext W lk H F n H1 F1 n1) : ResL K W H H2 F2 κs vs ds as := by
  induction r with
  | nil => exact .nil
  | fz r _ ih => exact .fz r ih
  | fr o hn ha _ ih =>
    refine .fr o ?_ ha ih
    cases q : H _ with
    | none => rfl
    | some u => rw [e.h _ u q o.2.1] at hn; cases hn
theorem kread : ∀ (fs : KF) {H F : Hp} {n n' : Nat} {ds : List D} {Q : List V → Hp → Prop}, (∀ p ∈ fs, p.1 = .fz ∨ p.1 = .fr) → SR K W ow H0 F0 lk σ H F ρ n → evalK fs ρ n = some (ds, n') →
    (∀ vs H' F' as, Ext W lk H F n H' F' n' → ResL K W H H' F' (fs.map (·.1)) vs ds as → Q vs H') → tKs K W ow fs σ H Q
  | [], H, F, n, n', ds, Q, _, s, hf, q => by
    have hf : (pure [] : M (List D)) n = some (ds, n') := hf
    cases M.pure_some.mp hf
    exact q [] H F [] s.refl .nil
  | (κ, f) :: fs, H, F, n, n', ds, Q, hk, s, hf, q => by
    obtain ⟨d, n1, h1, h2⟩ := M.bind_some.mp (show (f ρ >>= fun d => _) n = some (ds, n') from hf)
    obtain ⟨ds', n2, h3, h4⟩ := M.bind_some.mp h2
    cases M.pure_some.mp h4
    refine ⟨H0, F0, lk, F, ρ, n, d, n1, s, h1, fun v H1 F1 e1 r1 => ?_⟩
    refine kread fs (fun p hp => hk p (List.mem_cons_of_mem _ hp)) (s.ext e1) h3 fun vs H2 F2 as e2 r2 => ?_
    have r2' := r2.start e1
    rcases hk (κ, f) List.mem_cons_self with e | e
    · simp only at e
      subst e
      exact q (v :: vs) H2 F2 as (e1.trans s.wd e2) (.fz (Rep.same e2.f r1) r2')
    · simp only at e
      subst e
      obtain ⟨a, rfl, o, hn⟩ := r1
      refine q _ H2 F2 (a :: as) (e1.trans s.wd e2) (.fr (o.ext e2) hn (fun z => ?_) r2')
      have := (r2.noH a z).1
      obtain ⟨_, _, u, q3, _⟩ := o
      rw [q3] at this; cases this
theorem store_all : ∀ (is : List Nat) (κs : List Kd) {ow : List Nat} {σ : L2.St} {ρ : Ro} {vs : List V} {ds : List D} {as : List Addr}, is.length = κs.length → SR K W ow H0 F0 lk σ H1 F1 ρ n1 → ResL K W H H1 F1 κs vs ds as →
    (∀ a ∈ as, H0 a = none ∧ ∀ j, σ[j]? = some (some (.ref a)) → j ∈ ow → ∀ e, ρ[j]? ≠ some (some e)) → SR K W (owA ow is κs) H0 F0 lk (setLV σ is vs) H1 F1 (setLR ρ is ds) n1
  | [], [], ow, σ, ρ, vs, ds, as, _, s, r, _ => by cases r; exact s
  | i :: is, κ :: κs, ow, σ, ρ, vs, ds, as, hl, s, r, ha => by
    have hl2 : is.length = κs.length := by simpa using hl
    cases r with
    | @fz _ vs ds _ v d rv r =>
      refine store_all is κs hl2 (s.setF rv fun j => mem_rmv) r fun a h => ⟨(ha a h).1, fun j hj ho e he => ?_⟩
      obtain ⟨zo, zn⟩ := mem_rmv.mp ho
      rw [set_get zn] at hj he
      exact (ha a h).2 j hj zo e he
    | @fr _ vs ds as a d o hn hna r =>
      refine store_all is κs hl2 (s.setO o (ha a List.mem_cons_self).1 (ha a List.mem_cons_self).2 fun j => mem_ins) r fun b hb => ⟨(ha b (List.mem_cons_of_mem _ hb)).1, fun j hj ho e he => ?_⟩
      by_cases ji : j = i
      · subst ji
        rcases get_set hj with ⟨_, z, _⟩ | ⟨ne, _⟩
        · cases z; exact hna hb
        · exact ne rfl
      · rw [set_get ji] at hj he
        exact (ha b (List.mem_cons_of_mem _ hb)).2 j hj ((mem_ins.mp ho).resolve_right ji) e he
  | [], _ :: _, _, _, _, _, _, _, hl, _, _, _ => by simp at hl
  | _ :: _, [], _, _, _, _, _, _, hl, _, _, _ => by simp at hl
theorem fresh_all {κs : List Kd} {vs : List V} {ds : List D} {as : List Addr} (s : SR K W ow H0 F0 lk σ H F ρ n) (r : ResL K W H H1 F1 κs vs ds as) : ∀ a ∈ as, H0 a = none ∧ ∀ j, σ[j]? = some (some (.ref a)) → j ∈ ow → ∀ e, ρ[j]? ≠ some (some e) := fun a ha => by
  obtain ⟨hn, d, o⟩ := r.noH a ha
  refine ⟨?_, fun j hj ho e he => ?_⟩
  · cases q : H0 a with
    | none => rfl
    | some u =>
      rcases s.h0 a u q o.2.1 with z | ⟨ob, z⟩
      · rw [hn] at z; cases z
      · rw [(s.fz.lk _ _ _ z).1] at hn; cases hn
  · obtain ⟨b, q1, ⟨_, _, u, q4, _⟩, _⟩ := s.own j e he ho
    rw [hj] at q1; cases q1
    rw [hn] at q4; cases q4
end
def parS (is : List Nat) (fs : KF) : SF := fun ρ => evalK fs ρ >>= fun ds => pure (.nx (setLR ρ is ds))
section
variable {X : Cx} {W : Option Wd} {ow ow' owL : List Nat} {pos pt pt2 px py pz : Pos} {a b c : Expr} {fs : KF} {x y z : Str} {i j l : Nat} {kt k2 : Nat}
theorem ResL.len2 {K : PySem.W.Frag} {H H' F' : Hp} {κs : List Kd} {vs : List V} {ds : List D} {as : List Addr} (r : ResL K W H H' F' κs vs ds as) : vs.length = κs.length := by
  induction r with
  | nil => rfl
  | fz _ _ ih => simp [ih]
  | fr _ _ _ _ ih => simp [ih]
/-- a, b = e1, e2: two local names -/
theorem S_par2 {κ1 κ2 : Kd} {f g : Ro → M D} (hc : X.calm = true) (hN : X.N.Nodup) (hi : X.N[i]? = some x) (hj : X.N[j]? = some y) (hij : i ≠ j)
    (hx : X.env.scope.names.lookup x = some .local) (hy : X.env.scope.names.lookup y = some .local) (ha : VE X W ow κ1 a f) (hb : VE X W ow κ2 b g) (hk1 : κ1 = .fz ∨ κ1 = .fr) (hk2 : κ2 = .fz ∨ κ2 = .fr)
    (hw : swappedStores [.Tuple [.Name x px, .Name y py] kt pt] (.Tuple [a, b] k2 pt2) X.env = pure (some [x, y])) (how : ow' = owA ow [i, j] [κ1, κ2] := by decide)
    (hs : swapsWithSole [.Tuple [.Name x px, .Name y py] kt pt] (.Tuple [a, b] k2 pt2) pos.line X.env = pure false := by rfl)
    (hs1 : starEach [a, b] X.env = [(false, eval a X.env), (false, eval b X.env)] := by rfl) (hs2 : starEach [b] X.env = [(false, eval b X.env)] := by rfl) :
    VS X W ow ow' owL (.Assign [.Tuple [.Name x px, .Name y py] kt pt] (.Tuple [a, b] k2 pt2) pos) (parS [i, j] [(κ1, f), (κ2, g)]) :=
  PS.weak (ps_par (ta := tKs X.K W ow [(κ1, f), (κ2, g)]) hc hN hi hj hij hx hy (pa_cons ha (pa_cons hb pa_nil hs2) (by rw [hs1, hs2])) hw hs) fun Dn σ H ⟨H0, F0, lk, F, ρ, n, r, n', s, hf, q⟩ => by
    obtain ⟨ds, n1, h1, h2⟩ := M.bind_some.mp hf
    cases M.pure_some.mp h2
    refine kread [(κ1, f), (κ2, g)] (fun p hp => ?_) s h1 fun vs H' F' as e r => ?_
    · simp only [List.mem_cons, List.not_mem_nil, or_false] at hp
      rcases hp with rfl | rfl
      · exact hk1
      · exact hk2
    · have hlen := r.len2
      match vs, hlen with
      | [v, u], _ =>
        refine ⟨v, u, rfl, ?_⟩
        subst how
        have st := store_all [i, j] [κ1, κ2] rfl (s.ext e) r (fresh_all s r)
        exact q _ H' F' st
theorem S_par3 {κ1 κ2 κ3 : Kd} {f g h : Ro → M D} (hc : X.calm = true) (hN : X.N.Nodup) (hi : X.N[i]? = some x) (hj : X.N[j]? = some y) (hl : X.N[l]? = some z) (hij : i ≠ j) (hil : i ≠ l) (hjl : j ≠ l)
    (hx : X.env.scope.names.lookup x = some .local) (hy : X.env.scope.names.lookup y = some .local) (hz : X.env.scope.names.lookup z = some .local) (ha : VE X W ow κ1 a f) (hb : VE X W ow κ2 b g) (hcc : VE X W ow κ3 c h) (hk1 : κ1 = .fz ∨ κ1 = .fr) (hk2 : κ2 = .fz ∨ κ2 = .fr) (hk3 : κ3 = .fz ∨ κ3 = .fr)
    (hw : swappedStores [.Tuple [.Name x px, .Name y py, .Name z pz] kt pt] (.Tuple [a, b, c] k2 pt2) X.env = pure (some [x, y, z])) (how : ow' = owA ow [i, j, l] [κ1, κ2, κ3] := by decide)
    (hs : swapsWithSole [.Tuple [.Name x px, .Name y py, .Name z pz] kt pt] (.Tuple [a, b, c] k2 pt2) pos.line X.env = pure false := by rfl)
    (hs1 : starEach [a, b, c] X.env = [(false, eval a X.env), (false, eval b X.env), (false, eval c X.env)] := by rfl) (hs2 : starEach [b, c] X.env = [(false, eval b X.env), (false, eval c X.env)] := by rfl) (hs3 : starEach [c] X.env = [(false, eval c X.env)] := by rfl) :
    VS X W ow ow' owL (.Assign [.Tuple [.Name x px, .Name y py, .Name z pz] kt pt] (.Tuple [a, b, c] k2 pt2) pos) (parS [i, j, l] [(κ1, f), (κ2, g), (κ3, h)]) :=
  PS.weak (ps_par3 (ta := tKs X.K W ow [(κ1, f), (κ2, g), (κ3, h)]) hc hN hi hj hl hij hil hjl hx hy hz (pa_cons ha (pa_cons hb (pa_cons hcc pa_nil hs3) (by rw [hs2, hs3])) (by rw [hs1, hs2])) hw hs) fun Dn σ H ⟨H0, F0, lk, F, ρ, n, r, n', s, hf, q⟩ => by
    obtain ⟨ds, n1, h1, h2⟩ := M.bind_some.mp hf
    cases M.pure_some.mp h2
    refine kread [(κ1, f), (κ2, g), (κ3, h)] (fun p hp => ?_) s h1 fun vs H' F' as e r => ?_
    · simp only [List.mem_cons, List.not_mem_nil, or_false] at hp
      rcases hp with rfl | rfl | rfl
      · exact hk1
      · exact hk2
      · exact hk3
    · have hlen := r.len2
      match vs, hlen with
      | [v, u, t], _ =>
        refine ⟨v, u, t, rfl, ?_⟩
        subst how
        have st := store_all [i, j, l] [κ1, κ2, κ3] rfl (s.ext e) r (fresh_all s r)
        exact q _ H' F' st

/-! the same by a tuple that is made and taken apart: plain targets -/
def gNames : List Nat → TGs
  | [] => gNil
  | i :: is => gCons (gName i) (gNames is)
theorem gNames_read : ∀ (is : List Nat) {vs : List V} {σ : L2.St} {H : Hp} {Q : L2.St → Hp → Prop}, vs.length = is.length → Q (setLV σ is vs) H → gNames is vs σ H Q
  | [], [], σ, H, Q, _, q => ⟨rfl, q⟩
  | i :: is, v :: vs, σ, H, Q, hl, q => ⟨v, vs, rfl, gNames_read is (by simpa using hl) q⟩
  | [], _ :: _, _, _, _, h, _ => by simp at h
  | _ :: _, [], _, _, _, h, _ => by simp at h
theorem S_tupPar {ts es : List Expr} {is : List Nat} (hg : PG X (.Tuple ts kt pt) (gTup X.K is.length (gNames is))) (ha : PA X es (tKs X.K W ow fs)) (hlen : is.length = fs.length) (hk : ∀ p ∈ fs, p.1 = .fz ∨ p.1 = .fr) (how : ow' = owA ow is (fs.map (·.1)))
    (hs : swapsWithSole [.Tuple ts kt pt] (.Tuple es k2 pt2) pos.line X.env = pure false := by rfl) (hw : swappedStores [.Tuple ts kt pt] (.Tuple es k2 pt2) X.env = pure none := by rfl)
    (h1 : (assignEach [.Tuple ts kt pt] X.env).map (·.2) = [assign (.Tuple ts kt pt) X.env] := by rfl) (hsz : fs.length ≤ sizeLine := by decide) :
    VS X W ow ow' owL (.Assign [.Tuple ts kt pt] (.Tuple es k2 pt2) pos) (parS is fs) :=
  PS.weak (ps_asg (pe_tup ha) hg hs hw h1) fun Dn σ H ⟨H0, F0, lk, F, ρ, n, r, n', s, hf, q⟩ => by
    obtain ⟨ds, n1, h1, h2⟩ := M.bind_some.mp hf
    cases M.pure_some.mp h2
    refine kread fs hk s h1 fun vs H' F' as e r => ?_
    have hl : vs.length = is.length := by rw [r.len2, List.length_map, hlen]
    refine ⟨by rw [hl, hlen]; exact hsz, fun p hp => ⟨p, vs, rfl, .of upd_same, hl, gNames_read is hl ?_⟩⟩
    subst how
    have e2 : Ext W lk H' F' _ (upd H' p (.tup vs)) F' _ := .new_obj e.fz e.wd hp
    exact q _ _ F' (store_all is (fs.map (·.1)) (by rw [List.length_map]; exact hlen) (s.ext (e.trans s.wd e2)) (r.ext e2) (fresh_all s (r.ext e2)))

/-! ### a, b, .. = e: a tuple taken apart -/
def unpS (f : Ro → M D) (b : BF) : SF := fun ρ => f ρ >>= fun d => lo (b d ρ) >>= fun ρ' => pure (.nx ρ')
theorem S_unp {tg e : Expr} {f : Ro → M D} {b : BF} {sl : List Nat} (he : VE X W ow .fz e f) (hg : VG X W ow sl tg b) (hs : swapsWithSole [tg] e pos.line X.env = pure false := by rfl) (hw : swappedStores [tg] e X.env = pure none := by rfl)
    (h1 : (assignEach [tg] X.env).map (·.2) = [assign tg X.env] := by rfl) : VS X W ow ow owL (.Assign [tg] e pos) (unpS f b) :=
  PS.weak (ps_asg he hg hs hw h1) fun Dn σ H ⟨H0, F0, lk, F, ρ, n, r, n', s, hf, q⟩ => by
    obtain ⟨d, n1, h2, h3⟩ := M.bind_some.mp hf
    obtain ⟨ρ', n2, h4, h5⟩ := M.bind_some.mp h3
    obtain ⟨ρ2, h6, e⟩ := lo_some.mp h4
    cases e
    cases M.pure_some.mp h5
    exact ⟨H0, F0, lk, F, ρ, n, d, _, s, h2, fun v H1 F1 e1 r1 => ⟨H0, F0, lk, F1, ρ, _, d, _, s.ext e1, r1, h6, fun σ' s' _ => q σ' H1 F1 s'⟩⟩

/-! ### a < b < c -/
def chainE (fa fb fc : Ro → M D) (g h : D → D → Option D) : Ro → M D := fun ρ => fa ρ >>= fun x => fb ρ >>= fun y => lo (g x y) >>= fun z => match z with
  | .bl true => fc ρ >>= fun u => lo (h y u)
  | .bl false => pure (.bl false)
  | _ => fail
theorem chain_read {r r' : R2} {g h : D → D → Option D} {κa κb κc : Kd} {fa fb fc : Ro → M D} (hg : GR2 X.K W .fz r g) (hh : GR2 X.K W .fz r' h) {σ : L2.St} {H : Hp} {Q : VK} (hv : tV X.K W ow .fz (chainE fa fb fc g h) σ H Q) :
    tChain r r' (tV X.K W ow κa fa) (tV X.K W ow κb fb) (tV X.K W ow κc fc) σ H Q := by
  obtain ⟨H0, F0, lk, F, ρ, n, d, n', s, hf, q⟩ := hv
  obtain ⟨x, n1, h1, h2⟩ := M.bind_some.mp hf
  obtain ⟨y, n2, h3, h4⟩ := M.bind_some.mp h2
  obtain ⟨z, n3, h5, h6⟩ := M.bind_some.mp h4
  obtain ⟨z', h7, e⟩ := lo_some.mp h5
  cases e
  refine ⟨H0, F0, lk, F, ρ, n, x, n1, s, h1, fun v H1 F1 e1 r1 => ?_⟩
  have s1 := s.ext e1
  refine ⟨H0, F0, lk, F1, ρ, n1, y, _, s1, h3, fun u H2 F2 e2 r2 => ?_⟩
  have s2 := s1.ext e2
  refine hg lk H2 F2 _ v u x y z _ e2.fz e2.wd (r1.repB.ext e2) r2.repB h7 fun w H3 F3 e3 r3 => ?_
  have s3 := s2.ext e3
  have e13 := e1.trans s.wd (e2.trans s1.wd e3)
  cases z with
  | bl c =>
    cases r3
    refine ⟨c, rfl, ?_⟩
    cases c with
    | true =>
      obtain ⟨t, n4, h8, h9⟩ := M.bind_some.mp h6
      obtain ⟨t', h10, e⟩ := lo_some.mp h9
      cases e
      refine iteT ⟨H0, F0, lk, F3, ρ, _, t, _, s3, h8, fun w4 H4 F4 e4 r4 => ?_⟩
      refine hh lk H4 F4 _ u w4 y t d _ e4.fz e4.wd ((r2.repB.ext e3).ext e4) r4.repB h10 fun w5 H5 F5 e5 r5 => ?_
      exact q w5 H5 F5 (e13.trans s.wd (e4.trans s3.wd e5)) r5
    | false =>
      cases M.pure_some.mp h6
      exact iteF (q _ H3 F3 e13 (.bl _))
  | _ => exact absurd h6 (by simp [fail])
theorem V_chain {op op' : CmpOp} {r r' : R2} {g h : D → D → Option D} {κa κb κc : Kd} {fa fb fc : Ro → M D} (ho : OpR X (compareOp op) r) (ho' : OpR X (compareOp op') r') (hg : GR2 X.K W .fz r g) (hh : GR2 X.K W .fz r' h) (ha : VE X W ow κa a fa) (hb : VE X W ow κb b fb) (hcc : VE X W ow κc c fc)
    (hm : lastMarks [op, op'] [b, c] = false := by with_unfolding_all rfl) : VE X W ow .fz (.Compare a [op, op'] [b, c] pos) (chainE fa fb fc g h) :=
  PE.weak (pe_chain ho ho' ha hb hcc hm) fun _ _ _ h => chain_read hg hh h
theorem T_chain {op op' : CmpOp} {r r' : R2} {g h : D → D → Option D} {κa κb κc : Kd} {fa fb fc : Ro → M D} (ho : OpR X (compareOp op) r) (ho' : OpR X (compareOp op') r') (hg : GR2 X.K W .fz r g) (hh : GR2 X.K W .fz r' h) (ha : VE X W ow κa a fa) (hb : VE X W ow κb b fb) (hcc : VE X W ow κc c fc)
    (hm : lastMarks [op, op'] [b, c] = false := by with_unfolding_all rfl) : VT X W ow (.Compare a [op, op'] [b, c] pos) (asB (chainE fa fb fc g h)) :=
  PT.weak (pt_chain ho ho' ha hb hcc hm) fun σ H Q ⟨H0, F0, lk, F, ρ, n, b, n', s, hf, q⟩ => by
    refine chain_read hg hh ⟨H0, F0, lk, F, ρ, n, .bl b, n', s, asB_some.mp hf, fun v H' F' e r => ?_⟩
    cases r
    exact ⟨b, rfl, q H' F' e⟩
end
end L3
namespace L3
open PySem PySem.Spec PyProof.Rows L2

/-! ### sorted(xs) of alike data -/
def leD (d e : D) : Bool := PySem.W.dataLe false toPy d e
def tup1 : D → Bool
  | .tup (_ :: _) => true
  | _ => false
def noTup : D → Bool
  | .bl _ => true
  | .int _ => true
  | .str _ => true
  | .lst _ => true
  | _ => false
def sortOk (ds : List D) : Bool := plainL ds && decide (depL ds ≤ 60) && ds.all (fun d => ds.all fun e => PySem.W.alike (toPy d) (toPy e)) && (ds.all tup1 || ds.all noTup)
theorem toPyL_map : ∀ ds : List D, toPyL ds = ds.map toPy
  | [] => rfl
  | d :: ds => by rw [List.map_cons, ← toPyL_map ds]; rfl
theorem sortOk_some {ds : List D} (h : sortOk ds = true) : plainL ds = true ∧ (∀ d ∈ ds, (toPy d).depth ≤ 60) ∧ PySem.W.AllAlike (ds.map toPy) ∧ PySem.W.Sortable (ds.map toPy) := by
  unfold sortOk at h
  simp only [Bool.and_eq_true, decide_eq_true_eq, Bool.or_eq_true] at h
  obtain ⟨⟨⟨h1, h2⟩, h3⟩, h4⟩ := h
  refine ⟨h1, fun d hd => Nat.le_trans (PyData.depth_le_depthAll (toPyL ds) (toPy d) (by rw [toPyL_map]; exact List.mem_map_of_mem hd)) h2, fun x hx y hy => ?_, ?_⟩
  · obtain ⟨d, hd, rfl⟩ := List.mem_map.mp hx
    obtain ⟨e, he, rfl⟩ := List.mem_map.mp hy
    exact List.all_eq_true.mp (List.all_eq_true.mp h3 d hd) e he
  · rcases h4 with h4 | h4
    · refine .inl fun x hx => ?_
      obtain ⟨d, hd, rfl⟩ := List.mem_map.mp hx
      have := List.all_eq_true.mp h4 d hd
      cases d with
      | tup xs => cases xs with
        | nil => cases this
        | cons x r => exact ⟨toPy x, toPyL r, rfl⟩
      | _ => cases this
    · refine .inr fun x hx => ?_
      obtain ⟨d, hd, rfl⟩ := List.mem_map.mp hx
      have := List.all_eq_true.mp h4 d hd
      cases d with
      | bl b => exact ⟨nofun, nofun⟩
      | int b => exact ⟨nofun, nofun⟩
      | str b => exact ⟨nofun, nofun⟩
      | lst b => exact ⟨nofun, nofun⟩
      | _ => cases this
def sortV (vs : List V) (ds : List D) : List (V × D) := (vs.zip ds).mergeSort (PySem.W.dataLe false fun b => toPy b.2)
theorem sortV_snd {vs : List V} {ds : List D} (h : vs.length = ds.length) : (sortV vs ds).map Prod.snd = ds.mergeSort leD := by
  unfold sortV
  rw [PySem.W.sort_maps (r := PySem.W.dataLe false fun b : V × D => toPy b.2) (s := leD) Prod.snd (fun _ _ _ _ => rfl), List.map_snd_zip (by omega)]
section
variable {K : PySem.W.Frag} {W : Option Wd} {F : Hp}
theorem Reps.mem : ∀ {vs : List V} {ds : List D}, Reps K W F vs ds → ∀ p ∈ vs.zip ds, Rep K W F p.1 p.2
  | _, _, .nil, p, h => by simp at h
  | _, _, .cons h r, p, hp => by
    rw [List.zip_cons_cons] at hp
    rcases List.mem_cons.mp hp with rfl | hp
    · exact h
    · exact r.mem p hp
theorem Reps.of : ∀ {ps : List (V × D)}, (∀ p ∈ ps, Rep K W F p.1 p.2) → Reps K W F (ps.map Prod.fst) (ps.map Prod.snd)
  | [], _ => .nil
  | p :: ps, h => .cons (h p List.mem_cons_self) (Reps.of fun q hq => h q (List.mem_cons_of_mem _ hq))
theorem Reps.sort {vs : List V} {ds : List D} (r : Reps K W F vs ds) : Reps K W F ((sortV vs ds).map Prod.fst) (ds.mergeSort leD) := by
  rw [← sortV_snd r.length]
  exact Reps.of fun p hp => r.mem p ((List.mergeSort_perm _ _).mem_iff.mp hp)
end
def rSortD (K : PySem.W.Frag) : List V → Hp → VK → Prop := fun xs H Q => ∃ a vs ds, xs = [.ref a] ∧ SqL K H a vs ∧ DpAll K H vs (toPyL ds) ∧ sortOk ds = true ∧ ds.length = vs.length ∧ ∀ p, H p = none → Q (.ref p) (upd H p (.lst ((sortV vs ds).map Prod.fst)))
theorem each_vals {h : Heap} : ∀ {its : List Value} {vs : List V} {ds : List D}, Vals vs its → ds.length = vs.length → (∃ as, ReadsAll h its (toPyL ds) as) → PySem.W.EachIs (fun v (b : V × D) => RelV b.1 v ∧ ∃ as, Reads h v (toPy b.2) as) its (vs.zip ds)
  | _, _, [], .nil, _, _ => .nil
  | _, _, d :: ds, .cons r t, hl, ⟨as, h⟩ => by
    cases h with
    | cons h1 h2 => exact .cons ⟨r, _, h1⟩ (each_vals t (by simpa using hl) ⟨_, h2⟩)
  | _, _, [], .cons _ _, hl, _ => by simp at hl
  | _, _, _ :: _, .nil, hl, _ => by simp at hl
theorem vals_each {h : Heap} : ∀ {its : List Value} {bs : List (V × D)}, PySem.W.EachIs (fun v (b : V × D) => RelV b.1 v ∧ ∃ as, Reads h v (toPy b.2) as) its bs → Vals (bs.map Prod.fst) its
  | _, _, .nil => .nil
  | _, _, .cons r t => .cons r.1 (vals_each t)
section
variable {X : Cx} {W : Option Wd} {ow : List Nat} {pos p p2 : Pos} {e a b : Expr} {f : Ro → M D} {κ κa : Kd}
theorem cr_sortD (hu : X.A.units + 100 < cLine) : CallR X (.builtin "sorted") (rSortD X.K) := by
  intro pins s σ H vs us Q I r h
  obtain ⟨a, vs, ds, rfl, hs, hd, ok, hl, q⟩ := h
  obtain ⟨its, rv, hli, hz⟩ := I.list hs
  rw [Vals.ref1 r]
  obtain ⟨h1, h2, h3, h4⟩ := sortOk_some ok
  have hb : (vs.zip ds).map (fun b : V × D => toPy b.2) = ds.map toPy := by
    rw [show (fun b : V × D => toPy b.2) = toPy ∘ Prod.snd from rfl, ← List.map_map, List.map_snd_zip (by omega)]
  have hlen : (vs.zip ds).length = vs.length := by rw [List.length_zip]; omega
  refine PySem.W.sorted_data (β := V × D) (enc := fun b => toPy b.2) (bs := vs.zip ds) (vs := its) (R := fun v (b : V × D) => RelV b.1 v ∧ ∃ as, Reads s.heap v (toPy b.2) as) hli.isList
    (each_vals rv hl (Dp.readsAll I _ _ _ hd rv)) ((each_vals rv hl (Dp.readsAll I _ _ _ hd rv)).mono fun _ _ z => z.2) (by rw [hb]; exact h3) (by rw [hb]; exact h4) (by omega) (fun b hbm => ?_) fun out ho he => ?_
  · have := h2 b.2 (List.of_mem_zip hbm).2
    omega
  · obtain ⟨ep, he'⟩ := PyProof.Rows.sortedAll_at s.heap its out.toArray
    have hlen' : ((sortV vs ds).map Prod.fst).length ≤ sizeLine := by
      rw [List.length_map]; unfold sortV; rw [List.length_mergeSort, hlen]; exact hz
    exact ⟨.ref _, upd H (s.heap.objs.size + 1) (.lst ((sortV vs ds).map Prod.fst)), I.laid (t' := s.toks) (fun _ _ => PyProof.Rows.sortedAll_old) (Nat.le_succ _) ⟨hlen', out, ep, vals_each he, he'⟩, rfl, q _ (I.hok.fresh (Nat.le_succ _))⟩
def sortD : D → Option D
  | .lst ds => if sortOk ds = true then some (.lst (ds.mergeSort leD)) else none
  | _ => none
theorem g_sort {K : PySem.W.Frag} : GU K W .fr (rSortD K) sortD := by
  intro lk H F n v d z Q fz wd rv hz q
  unfold sortD at hz
  split at hz
  · split at hz
    · rename_i ok
      cases hz
      obtain ⟨h1, _⟩ := sortOk_some ok
      obtain ⟨a, vs, rfl, h, r⟩ := rv.lst fz
      exact ⟨a, vs, _, rfl, .of h, Reps.dp fz _ _ r h1, ok, r.length.symm, fun p hp => q _ _ _ (.new_obj fz wd hp) (res_new fz wd hp (.lst r.sort))⟩
    · cases hz
  · cases hz
theorem V_sorted (hu : X.A.units + 100 < cLine) (ha : VE X W ow κa a f) (hg : Gl X "sorted") (hm : X.mg "sorted" = none) (hs : starEach [a] X.env = [(false, eval a X.env)] := by rfl) : VE X W ow .fr (.Call (.Name "sorted" p) [a] [] pos) (un f sortD) :=
  V_callB (cr_sortD hu) g_sort hg hm (by decide +kernel) ha hs
end
end L3
namespace L3
open PySem PySem.Spec PyProof.Rows L2

/-! ### set(xs) of a list of ints -/
section
variable {P : Program} {w : World} {A : Around} {E : Value → Shared → Prop} {s : Shared}
/-- a set that is made empty -/
def eSet (w : World) : Obj := { cls := .type "set", dict := none, data := .set #[] 0 (.fresh 0 0 (!w.params.followText "set-order")) }
theorem set_of_list {l : Addr} {items : Array Value} (ns : List Int) {Q : Value → Shared → Prop} (hh : A.handled = none) (hl : s.heap.IsList l items) (hit : IntsAre items.toList ns) (hb : ns.length + 1 < scanBound)
    (h : ∀ (h' : Heap) (tk c : Nat), SetR w h' s.heap.objs.size (fun j => decide (j ∈ ns)) c → c ≤ ns.length → (∀ b o, s.heap.get? b = some o → h'.get? b = some o) → Q (.ref s.heap.objs.size) { s with heap := h', toks := tk }) :
    wpAny (model P w) A (call (.type "set") [.ref l]) Q E s := by
  have hisz : items.size = ns.length := by rw [← Array.length_toList]; exact IntsAre.length hit
  obtain ⟨c, tl, hmro⟩ := F.called_set.mro
  have hmade := F.called_set.made
  have hsub := F.called_set.sub
  refine wpAny_call (codeAny_of_tree ?_)
  show wpAny _ _ (callAny (.type "set") _) _ _ _
  refine wpAny_pure ⟨Code.quiet_builtin _ (by decide +kernel), codeAny_builtin F.entry_type_call ?_⟩
  rw [Around.under_plain (weight_type_call_type "set" [.ref l] []) rfl]
  have h1 := F.called_set.notType
  have h2 := F.called_set.canCreate
  have hct := F.typeCall_set_1 (.ref l)
  repeat (any_goals (first | assumption | wp_step))

  refine codeAny_mono (code_set_led1 (.ref l) (E := E) (Q₁ := fun obj s₁ => obj = .ref s.heap.objs.size ∧ s₁ = { s with heap := s.heap.push (eSet w) }) ⟨rfl, rfl⟩) fun r s₁ hr => ?_
  cases r with
  | error e => exact hr
  | ok fl =>
    cases fl with
    | ret obj =>
      obtain ⟨rfl, rfl⟩ := hr
      have hS : (s.heap.push (eSet w)).get? s.heap.objs.size = some (eSet w) := Heap.get?_push_size _ rfl
      have hT : Shared.TypeIs { s with heap := s.heap.push (eSet w) } (.ref s.heap.objs.size) "set" := ⟨_, hS, rfl⟩
      have hli := F.called_set.init.lookup
      have hbi := F.called_set.init.bind (.ref s.heap.objs.size)
      repeat (any_goals (first | assumption | wp_step))

      refine codeAny_mono (codeAny_call_builtin (R := wants (fun r s₂ => r = .none ∧ ∃ h' tk c, s₂ = { s with heap := h', toks := tk } ∧ SetR w h' s.heap.objs.size (fun j => decide (j ∈ ns)) c ∧ c ≤ ns.length ∧
          (∀ b o, s.heap.get? b = some o → h'.get? b = some o)) E) F.called_set.init.plain F.entry_set_init (check_set_init_1 hT ?_)) fun r₂ s₂ hr₂ => ?_
      · obtain ⟨⟨ocls, odict, odata, oslots⟩, hol, hcl, nl, hdl⟩ := hl
        simp only at hcl hdl
        subst hcl; subst hdl
        have hol' := Heap.get?_push_of_some (eSet w) hol
        have hsls := F.sub_list_set
        have hslf := F.sub_list_frozenset
        have hne : (Value.type "list" == Value.type "dict") = false := by decide
        have hl1 : (s.heap.push (eSet w)).IsList l items := ⟨_, hol', rfl, nl, rfl⟩
        unfold Builtin.«set.__init__» noKeywords Builtin.Frozenset.updateFrom
        generalize hPI : pyIter = PI
        wp_walk
        subst hPI

        refine wpAny_pyIter_list hl1 ?_
        refine wpAny_bind (wpAny_runValue ?_)
        have hlS : l < s.heap.objs.size := Heap.lt_size hol
        have hh3 : A.in1.in1.in1.handled = none := by simp [hh]
        have hz1 : (s.heap.push (eSet w)).objs.size = s.heap.objs.size + 1 := Heap.size_push ..
        have hneI : l ≠ (s.heap.push (eSet w)).objs.size := by rw [hz1]; exact Nat.ne_of_lt (Nat.lt_succ_of_lt hlS)
        have hSf : s.heap.objs.size ∉ [(s.heap.push (eSet w)).objs.size, l] := by
          rw [hz1]; simp only [List.mem_cons, List.not_mem_nil, or_false, not_or]; exact ⟨Nat.ne_of_lt (Nat.lt_succ_self _), Nat.ne_of_gt hlS⟩
        have hval : ∀ (i : Nat) (v : Value), items[i]? = some v → ∃ k t, ns[i]? = some k ∧ v = .int k t := fun i v hv => by
          have hi : i < ns.length := by rw [← hisz]; exact (Array.getElem?_eq_some_iff.mp hv).1
          obtain ⟨t, e⟩ := PyProof.Rows.IntsAre.int_at hit i v (by rw [Array.getElem?_toList]; exact hv)
          refine ⟨ns[i], t, List.getElem?_eq_getElem hi, ?_⟩
          rw [e, List.getD_eq_getElem?_getD, List.getElem?_eq_getElem hi] <;> rfl
        refine set_update_ints ((Walks.list hh3 _ l hneI items).toS) s.heap.objs.size hSf ns hisz hb hval (items.size - 0) 0 _ (by omega) (Nat.zero_le _) ⟨⟨_, Heap.get?_push_size _ rfl, rfl, rfl⟩, (hl1.push _)⟩ ?hS0 ?hR
        case hS0 => exact ⟨0, Nat.le_refl 0, setR_new_at (Heap.get?_push_of_some _ hS)⟩
        case hR =>
          intro s' c' hm hc' hS'
          obtain ⟨h', g2, d', tk', os'⟩ := s'
          have eg : g2 = s.gens := hm.gens
          have ed : d' = s.drawn := hm.drawn
          have eo : os' = s.os := hm.os
          subst eg; subst ed; subst eo
          show wpAny _ _ _ _ _ _
          refine wpAny_pure ?_
          show wpAny _ _ (ret Value.none) _ _ _
          rw [hisz] at hc'
          refine wpAny_pure ⟨rfl, h', tk', c', rfl, hS', hc', fun b o e => ?_⟩
          have hb0 : b < s.heap.objs.size := Heap.lt_size e
          refine hm.heap b o ?_ (Heap.get?_push_of_some _ (Heap.get?_push_of_some _ e))
          show b ∉ [s.heap.objs.size, (s.heap.push (eSet w)).objs.size]
          rw [hz1]; simp only [List.mem_cons, List.not_mem_nil, or_false, not_or]; exact ⟨Nat.ne_of_lt hb0, Nat.ne_of_lt (Nat.lt_succ_of_lt hb0)⟩

      · cases r₂ with
        | error e => exact hr₂
        | ok fl₂ =>
          cases fl₂ with
          | ret r =>
            obtain ⟨rfl, h', tk, c', rfl, hS', hc', hk'⟩ := hr₂
            repeat (any_goals (first | assumption | wp_step))
            exact h _ _ _ hS' hc' hk'
          | _ => exact hr₂.elim
    | _ => exact hr.elim
end

def rSetL (K : PySem.W.Frag) (w : World) : List V → Hp → VK → Prop := fun xs H Q => ∃ (a : Addr) (ns : List Int), xs = [.ref a] ∧ SqL K H a (ns.map V.int) ∧ ns.length < 64 ∧
  ∀ p c, H p = none → c ≤ ns.length → Q (.ref p) (upd H p (SetO w p (fun j => decide (j ∈ ns)) c))
section
variable {X : Cx} {W : Option Wd} {ow : List Nat} {pos p p2 pos2 : Pos} {e a b : Expr} {f : Ro → M D} {κ κa : Kd}
theorem cr_setL (hc : X.calm = true) : CallR X (.type "set") (rSetL X.K X.w) := by
  intro pins s σ H vs us Q I r h
  obtain ⟨a, ns, rfl, hs, h64, q⟩ := h
  obtain ⟨its, rv, hl, _⟩ := I.list hs
  rw [Vals.ref1 r]
  refine set_of_list ns (I.ok.hd hc) hl.isList (by simpa using rv.ints) (by unfold scanBound; omega) fun h' tk c R hcn hk => ?_
  exact ⟨.ref _, upd H s.heap.objs.size (SetO X.w s.heap.objs.size (fun j => decide (j ∈ ns)) c), I.laid (t' := tk) hk (Nat.le_refl _) (setO_new R), rfl, q _ c (I.hok.fresh (Nat.le_refl _)) hcn⟩
/-- strictly rising, the same members -/
def insU (i : Int) : List Int → List Int
  | [] => [i]
  | j :: js => if i < j then i :: j :: js else if i = j then j :: js else j :: insU i js
def sortU (ns : List Int) : List Int := ns.foldr insU []
theorem mem_insU {i k : Int} : ∀ {js : List Int}, k ∈ insU i js ↔ k = i ∨ k ∈ js
  | [] => by simp [insU]
  | j :: js => by
    unfold insU
    split
    · simp
    · split
      · rename_i h; subst h; simp
      · simp only [List.mem_cons, mem_insU]
        constructor
        · rintro (h | h | h)
          · exact .inr (.inl h)
          · exact .inl h
          · exact .inr (.inr h)
        · rintro (h | h | h)
          · exact .inr (.inl h)
          · exact .inl h
          · exact .inr (.inr h)
theorem mem_sortU {k : Int} : ∀ {ns : List Int}, k ∈ sortU ns ↔ k ∈ ns
  | [] => by simp [sortU]
  | n :: ns => by
    show k ∈ insU n (sortU ns) ↔ _
    rw [mem_insU, mem_sortU, List.mem_cons]
theorem insU_up {i : Int} : ∀ {js : List Int}, js.Pairwise (· < ·) → (insU i js).Pairwise (· < ·)
  | [], _ => by simp [insU]
  | j :: js, h => by
    obtain ⟨h1, h2⟩ := List.pairwise_cons.mp h
    unfold insU
    split
    · rename_i hij
      refine List.pairwise_cons.mpr ⟨fun k hk => ?_, h⟩
      rcases List.mem_cons.mp hk with rfl | hk
      · exact hij
      · exact Int.lt_trans hij (h1 k hk)
    · split
      · exact h
      · rename_i h3 h4
        refine List.pairwise_cons.mpr ⟨fun k hk => ?_, insU_up h2⟩
        rcases mem_insU.mp hk with rfl | hk
        · omega
        · exact h1 k hk
theorem sortU_up : ∀ ns : List Int, (sortU ns).Pairwise (· < ·)
  | [] => .nil
  | n :: ns => insU_up (sortU_up ns)
theorem up_unique : ∀ {a b : List Int}, a.Pairwise (· < ·) → b.Pairwise (· < ·) → (∀ k, k ∈ a ↔ k ∈ b) → a = b
  | [], [], _, _, _ => rfl
  | [], y :: b, _, _, h => by have := (h y).mpr List.mem_cons_self; cases this
  | x :: a, [], _, _, h => by have := (h x).mp List.mem_cons_self; cases this
  | x :: a, y :: b, ha, hb, h => by
    obtain ⟨a1, a2⟩ := List.pairwise_cons.mp ha
    obtain ⟨b1, b2⟩ := List.pairwise_cons.mp hb
    have e : x = y := by
      rcases List.mem_cons.mp ((h x).mp List.mem_cons_self) with e | hx
      · exact e
      · rcases List.mem_cons.mp ((h y).mpr List.mem_cons_self) with e | hy
        · exact e.symm
        · have := b1 x hx; have := a1 y hy; omega
    subst e
    congr 1
    refine up_unique a2 b2 fun k => ?_
    constructor
    · intro hk
      rcases List.mem_cons.mp ((h k).mp (List.mem_cons_of_mem _ hk)) with e | z
      · have := a1 k hk; omega
      · exact z
    · intro hk
      rcases List.mem_cons.mp ((h k).mpr (List.mem_cons_of_mem _ hk)) with e | z
      · have := b1 k hk; omega
      · exact z
def sortSetD : D → Option D
  | .lst xs => (intsD xs).bind fun ns => if ns.length < 64 then some (.lst ((sortU ns).map .int)) else none
  | _ => none
theorem reps_ints {K : PySem.W.Frag} {F : Hp} : ∀ ns : List Int, Reps K W F (ns.map V.int) (ns.map D.int)
  | [] => .nil
  | n :: ns => .cons (.int n) (reps_ints ns)
/-- sorted(set(xs)), fewer than 64 ints -/
theorem V_sortSet (hc : X.calm = true) (ha : VE X W ow κa a f) (hg : Gl X "sorted") (hm : X.mg "sorted" = none) (hg2 : Gl X "set") (hm2 : X.mg "set" = none) (hs : starEach [a] X.env = [(false, eval a X.env)] := by rfl)
    (hs2 : starEach [.Call (.Name "set" p2) [a] [] pos2] X.env = [(false, eval (.Call (.Name "set" p2) [a] [] pos2) X.env)] := by rfl) : VE X W ow .fr (.Call (.Name "sorted" p) [.Call (.Name "set" p2) [a] [] pos2] [] pos) (un f sortSetD) :=
  PE.weak (pe_callB (cr_sortedSet hc) hg hm (by decide +kernel) (pa_cons (pe_callTy (cr_setL hc) hg2 hm2 (by decide +kernel) (pa_cons ha pa_nil hs) (by decide) (by decide) hs) pa_nil hs2) (by decide) (by decide) hs2) fun σ H Q ⟨H0, F0, lk, F, ρ, n, d, n', s, hf, q⟩ => by
    obtain ⟨x, h1, h2⟩ := un_some.mp hf
    refine ⟨H0, F0, lk, F, ρ, n, x, n', s, h1, fun v H1 F1 e1 r1 => ?_⟩
    cases x with
    | lst xs =>
      have h2 : ((intsD xs).bind fun ns => if ns.length < 64 then some (.lst ((sortU ns).map .int)) else none) = some d := h2
      cases h3 : intsD xs with
      | none => rw [h3] at h2; cases h2
      | some ns =>
        rw [h3] at h2
        have h2 : (if ns.length < 64 then some (D.lst ((sortU ns).map .int)) else none) = some d := h2
        split at h2
        · rename_i h64
          cases h2
          have rb := r1.repB
          rw [intsD_some h3] at rb
          obtain ⟨a, vs, rfl, h, r⟩ := rb.lst e1.fz
          cases r.ints
          refine ⟨a, ns, rfl, .of h, h64, fun p c hp hcn => ?_⟩
          have e2 : Ext W lk H1 F1 n' (upd H1 p (SetO X.w p (fun j => decide (j ∈ ns)) c)) F1 n' := .new_obj e1.fz e1.wd hp
          refine ⟨p, _, c, rfl, upd_same, by omega, fun ms p' hu hmem hl hp' => ?_⟩
          have em : ms = sortU ns := up_unique hu (sortU_up ns) fun k => by rw [hmem, mem_sortU]; simp
          subst em
          have hw1 := e1.trans s.wd e2
          have e3 : Ext W lk _ F1 n' (upd (upd H1 p (SetO X.w p (fun j => decide (j ∈ ns)) c)) p' (.lst ((sortU ns).map V.int))) F1 n' := .new_obj e2.fz e2.wd hp'
          exact q _ _ _ (hw1.trans s.wd e3) ((res_new e2.fz e2.wd hp' (.lst (reps_ints _))).lift s.wd hw1)
        · cases h2
    | _ => cases h2
end
end L3
namespace L3
open PySem PySem.Spec PyProof.Rows L2

/-! ### x[::-1] of a tuple -/
section
variable {prog : Program} {w : World} {A : Around} {E : Value → Shared → Prop} {s : Shared}
theorem adj_back (n : Nat) : Builtin.Slice.sliceAdjust none none (-1) (n : Int) = ((n : Int) - 1, -1) := by
  unfold Builtin.Slice.sliceAdjust; simp
theorem places_back (n : Nat) : Builtin.Slice.slicePlaces ((n : Int) - 1) (-1) (-1) = n := by
  unfold Builtin.Slice.slicePlaces
  rw [if_neg (by decide)]
  split
  · rw [show (- (-1) : Int) = 1 by decide, Int.ediv_one]; omega
  · omega
theorem pick_back (xs : Array Value) : ((List.range xs.size).filterMap fun (m : Nat) => xs[((xs.size : Int) - 1 + (m : Int) * (-1)).toNat]?) = xs.toList.reverse := by
  have e : (List.range xs.size).map (fun m : Nat => ((xs.size : Int) - 1 + (m : Int) * (-1)).toNat) = (List.range xs.size).reverse := by
    rw [← PySem.W.krv_range]
    refine List.map_congr_left fun m hm => ?_
    have := List.mem_range.mp hm
    omega
  have := congrArg (List.filterMap (xs[·]?)) e
  rw [List.filterMap_map, List.filterMap_reverse, PySem.W.krv_all] at this
  exact this
theorem sliced_back {sl : Addr} {vs : Value} {n : Nat} {Q : Int × Int × Nat → Shared → Prop} (hs : s.heap.IsSliceOf sl .none .none vs) (ps : IsPart vs (some (-1)))
    (h : Q ((n : Int) - 1, -1, n) s) : wpAny (model prog w) A (Builtin.Slice.sliceApplied (.ref sl) (pure (n : Int))) Q E s := by
  obtain ⟨os, hos, hcs, hds⟩ := id hs
  unfold Builtin.Slice.sliceApplied Builtin.Slice.sliceFields
  refine wpAny_bind (wpAny_bind (wpAny_field hos hds (x := .none) rfl (wpAny_bind (wpAny_field hos hds (x := .none) rfl (wpAny_bind (wpAny_field hos hds (x := vs) rfl (wpAny_pure ?_)))))))
  refine wpAny_bind (HT.slicePart_ ps ?_)
  show wpAny _ _ (if ((-1 : Int) == 0) = true then _ else _) _ _ s
  rw [if_neg (by decide)]
  refine wpAny_bind (HT.slicePart_ .none (wpAny_bind (HT.slicePart_ .none (wpAny_bind (wpAny_pure ?_)))))
  show wpAny _ _ (match Builtin.Slice.sliceAdjust none none (-1) (n : Int) with | (lo, hi) => pure (lo, (-1 : Int), Builtin.Slice.slicePlaces lo hi (-1))) _ _ s
  rw [adj_back n]
  show wpAny _ _ (pure ((n : Int) - 1, (-1 : Int), Builtin.Slice.slicePlaces ((n : Int) - 1) (-1) (-1))) _ _ s
  rw [places_back]
  exact wpAny_pure h
theorem getItem_tuple_back {t sl : Addr} {items : Array Value} {vs : Value} {Q : Value → Shared → Prop} (ht : IsTup s.heap t items) (hs : s.heap.IsSliceOf sl .none .none vs) (ps : IsPart vs (some (-1)))
    (h : Q (.ref s.heap.objs.size) { s with heap := s.heap.push { cls := .type "tuple", data := .seq items.toList.reverse.toArray } })
    (hsz : items.size ≤ sizeLine) : wpAny (model prog w) A (getItem (.ref t) (.ref sl)) Q E s := by
  have htake : sizeOk (.seq items.toList.reverse.toArray) := by
    show items.toList.reverse.toArray.size ≤ sizeLine
    rw [List.size_toArray, List.length_reverse, Array.length_toList]; exact hsz
  obtain ⟨os, hos, hcs, hds⟩ := id hs
  have hTs : s.TypeIs (.ref sl) "slice" := ⟨os, hos, hcs⟩
  unfold getItem
  try with_reducible refine wpAny_holding ?_
  first | refine wpAny_bind (wpAny_pure ?_) | skip
  refine wpAny_bind (wpAny_sequenceKey ht.typeIs (by decide) ?_)
  refine wpAny_bind (wpAny_callSpecial?_slot (name := Str.ofString "__getitem__") ht.typeIs PyProof.Rows.slot_tuple_getitem
    (wpAny_call_entry PyProof.Rows.slot_tuple_getitem ht.typeIs entry_tuple_getitem ?_ (args_tuple_getitem _ _)))
  show wpAny _ _ (Builtin.Tuple.tupleItemsOf (.ref t) >>= _) _ _ s
  refine wpAny_bind (tupleItemsOf_ ht ?_)
  refine wpAny_bind (wpAny_typeOf hTs ?_)
  rw [if_pos (by decide)]
  refine wpAny_bind (sliced_back hs ps ?_)
  have hno : ¬ (((items.size : Int) - 1 == 0 && (-1 : Int) == 1 && items.size == items.size) = true) := by simp
  show wpAny _ _ (if ((items.size : Int) - 1 == 0 && (-1 : Int) == 1 && items.size == items.size) = true then _ else _) _ _ s
  rw [if_neg hno, pick_back]
  first
    | exact wpAny_bind (m := Builtin.Tuple.tupleExact _) (wpAny_newObj_type (wpAny_pure ⟨_, rfl, wpAny_pure h⟩) htake)
    | exact wpAny_bind (m := Builtin.Tuple.tupleExact _) (wpAny_newObj_type (wpAny_bind (wpAny_pure (wpAny_pure ⟨_, rfl, wpAny_pure h⟩))) htake)
    | exact wpAny_bind (wpAny_bind (m := Builtin.Tuple.tupleExact _) (wpAny_newObj_type (wpAny_pure (wpAny_pure ⟨_, rfl, wpAny_pure h⟩)) htake))
    | exact wpAny_bind (wpAny_bind (m := Builtin.Tuple.tupleExact _) (wpAny_newObj_type (wpAny_pure ⟨_, rfl, wpAny_pure h⟩) htake))
end
def tRevT (K : PySem.W.Frag) (te : TE) : TE := fun σ H Q => te σ H fun x H1 => ∃ a xs, x = .ref a ∧ SqT K H1 a xs ∧ ∀ p, H1 p = none → Q (.ref p) (upd H1 p (.tup xs.reverse))
theorem Reps.reverse {K : PySem.W.Frag} {W : Option Wd} {F : Hp} : ∀ {vs : List V} {ds : List D}, Reps K W F vs ds → Reps K W F vs.reverse ds.reverse
  | _, _, .nil => .nil
  | _, _, .cons h r => by rw [List.reverse_cons, List.reverse_cons]; exact r.reverse.snoc h
section
variable {X : Cx} {W : Option Wd} {ow : List Nat} {p1 p2 p3 pos : Pos} {e : Expr} {f : Ro → M D} {κ : Kd} {k : Nat}
theorem pe_revT {te : TE} (he : PE X e te) : PE X (.Subscript e (.Slice none none (some (.UnaryOp .USub (.Constant (.int 1) k p1) p2)) p3) pos) (tRevT X.K te) := by
  refine ⟨fun pins s σ H Q I h => ?_⟩
  refine Subscript_ (thn (he.run pins s σ H _ I h) fun v s1 ⟨x, H1, I1, r1, q1⟩ => ?_)
  obtain ⟨a, xs, ex, hx, q⟩ := q1
  subst ex
  cases r1
  have hst : PO X (some (.UnaryOp .USub (.Constant (.int 1) k p1) p2)) (tPart (tUn (rU fun i => .int (-i)) (tC (.int 1)))) := po_some (pe_un un_neg pe_int)
  refine wpAny_Slice (thn (po_none.run pins s1 σ H1 (fun o H2 => o = none ∧ H2 = H1) I1 ⟨rfl, rfl⟩) fun vl s2 ⟨l, H2, I2, pl, el, e2⟩ => ?_)
  subst el e2
  refine thn (po_none.run pins s2 σ H2 (fun o H3 => o = none ∧ H3 = H2) I2 ⟨rfl, rfl⟩) fun vu s3 ⟨u, H3, I3, pu, eu, e3⟩ => ?_
  subst eu e3
  refine thn (hst.run pins s3 σ H3 (fun o H4 => o = some (-1) ∧ H4 = H3) I3 ⟨1, rfl, -1, rfl, rfl, rfl⟩) fun vs s4 ⟨o, H4, I4, ps, eo, e4⟩ => ?_
  subst eo e4
  cases pl
  cases pu
  have I5 : Inv X pins σ H4 { s4 with heap := s4.heap.push { cls := .type "slice", data := .fields #[.none, .none, vs] } } := I4.kept (t' := s4.toks) fun b ob q => Heap.get?_push_of_some _ q
  obtain ⟨its, r, ht, hz⟩ := I5.tuple hx
  have hlen := r.length
  show wpAny (model X.prog X.w) X.A (subscriptTail e (.Slice none none (some (.UnaryOp .USub (.Constant (.int 1) k p1) p2)) p3) (.ref a) (.ref s4.heap.objs.size)) (EP X pins σ Q) X.xe { s4 with heap := s4.heap.push { cls := .type "slice", data := .fields #[.none, .none, vs] } }
  refine tail_any (ops := [.ref a, .ref s4.heap.objs.size]) ht.typeIs (PyProof.Rows.slot_tuple_getitem.lookup) ?_ (by with_unfolding_all rfl)
  refine getItem_tuple_back (items := its.toArray) ht (Heap.IsSliceOf.new _ .none .none vs) ps ?_ (by rw [List.size_toArray]; omega)
  refine ⟨.ref _, _, I5.laid (t' := s4.toks) (o := .tup xs.reverse) (fun b ob q => Heap.get?_push_of_some _ q) (Nat.le_refl _) ?_, rfl, q _ (I5.hok.fresh (Nat.le_refl _))⟩
  refine ⟨by rw [List.length_reverse]; exact hz, _, r.reverse, ⟨_, Heap.get?_push_size _ rfl, rfl, _, rfl⟩⟩
def revD : D → Option D
  | .lst xs => some (.lst xs.reverse)
  | .tup xs => some (.tup xs.reverse)
  | _ => none
theorem V_rev (h : VE X W ow κ e f) : VE X W ow .fz (.Subscript e (.Slice none none (some (.UnaryOp .USub (.Constant (.int 1) k p1) p2)) p3) pos) (un f revD) :=
  PE.weak (PE.or (pe_revL h) (pe_revT h)) fun σ H Q ⟨H0, F0, lk, F, ρ, n, d, n', s, hf, q⟩ => by
    obtain ⟨x, h1, h2⟩ := un_some.mp hf
    cases x with
    | lst xs =>
      cases h2
      refine .inl ⟨H0, F0, lk, F, ρ, n, _, n', s, h1, fun v H1 F1 e1 r1 => ?_⟩
      obtain ⟨a, vs, rfl, h, r⟩ := r1.repB.lst e1.fz
      refine ⟨a, vs, rfl, .of h, fun p hp => q _ _ _ (e1.trans s.wd (.new_fz e1.fz e1.wd hp)) ?_⟩
      exact .lst upd_same (r.reverse.same (Same.upd (e1.fz.none hp)))
    | tup xs =>
      cases h2
      refine .inr ⟨H0, F0, lk, F, ρ, n, _, n', s, h1, fun v H1 F1 e1 r1 => ?_⟩
      obtain ⟨a, vs, rfl, fa, h, r⟩ := r1.repB.tup e1.fz
      exact ⟨a, vs, rfl, .of h, fun p hp => q _ _ _ (e1.trans s.wd (.new_fz e1.fz e1.wd hp)) (rep_newT (e1.fz.none hp) r.reverse)⟩
    | _ => cases h2
end

/-! ### zip of two lists -/
def zipD : List D → Option (List D)
  | [.lst xs, .lst ys] => some ((xs.zip ys).map fun p => .tup [p.1, p.2])
  | _ => none
def zipE (f : Ro → M (List D)) : Ro → M (List D) := fun ρ => f ρ >>= fun ds => lo (zipD ds)
section
variable {X : Cx} {W : Option Wd} {ow : List Nat} {e e2 : Expr} {f : Ro → M (List D)} {lk : Lk} {H1 F1 : Hp} {n1 : Nat}
theorem steps_zip {K : PySem.W.Frag} {a b : Addr} {vs us : List V} {xs ys : List D} (r : Reps K W F1 vs xs) (r2 : Reps K W F1 us ys) (ha : F1 a = some (.lst vs)) (hb : F1 b = some (.lst us)) :
    Steps K W lk .fz H1 F1 n1 (Itz K a b) ((xs.zip ys).map fun p => .tup [p.1, p.2]) := by
  intro i H2 F2 n2 l
  obtain ⟨sm, fz, wd⟩ := l.kept
  have h1 := fz.lst (sm _ _ ha)
  have h2 := fz.lst (sm _ _ hb)
  refine ⟨fun x hx => ?_, fun hi => ⟨vs, us, .of h1, .of h2, ?_⟩⟩
  · rw [List.getElem?_map] at hx
    cases hz : (xs.zip ys)[i]? with
    | none => rw [hz] at hx; cases hx
    | some p =>
      rw [hz] at hx; cases hx
      obtain ⟨hp1, hp2⟩ := List.getElem?_zip_eq_some.mp hz
      obtain ⟨v, hv, rv⟩ := r.get hp1
      obtain ⟨u, hu, ru⟩ := r2.get hp2
      refine ⟨⟨vs, us, v, u, .of h1, .of h2, hv, hu⟩, fun t H3 y => ?_⟩
      obtain ⟨T, v', u', rfl, hT, rfl, g1, g2⟩ := y
      have g1 := g1 vs (.of h1)
      have g2 := g2 us (.of h2)
      rw [hv] at g1; rw [hu] at g2
      cases g1; cases g2
      exact ⟨_, .new_fz fz wd hT, rep_newT (fz.none hT) (.cons (rv.same sm) (.cons (ru.same sm) .nil))⟩
  · rw [List.length_map, List.length_zip] at hi
    rw [r.length, r2.length]
    omega
theorem I_zip {p pos tpos : Pos} {elts : List Expr} {kk : Nat} (hg : Gl X "zip") (hm : X.mg "zip" = none) (ha : VA X W ow [e, e2] f)
    (hs : starEach [e, e2] X.env = (false, eval e X.env) :: starEach [e2] X.env := by rfl) (hpl : (backTo pos (starEach [e2] X.env)).any (·.1) = false := by rfl) :
    VI X W ow .fz (.Tuple elts kk tpos) (.Call (.Name "zip" p) [e, e2] [] pos) (zipE f) :=
  PI.weak (pi_zip hg hm ha hs hpl) fun σ H R ⟨H0, F0, lk, F, ρ, n, xs, n', s, hf, q⟩ => by
    obtain ⟨ds, n1, h1, h2⟩ := M.bind_some.mp hf
    obtain ⟨y, h3, e⟩ := lo_some.mp h2
    cases e
    unfold zipD at h3
    split at h3
    · cases h3
      refine ⟨H0, F0, lk, F, ρ, n, _, _, s, h1, fun vs H1 F1 e1 r1 => ?_⟩
      cases r1 with
      | cons a1 t =>
        cases t with
        | cons a2 t =>
          cases t
          cases a1 with
          | lst h r =>
            cases a2 with
            | lst h' r' =>
              refine ⟨_, _, _, _, rfl, .of (e1.fz.lst h), .of (e1.fz.lst h'), q _ H1 F1 lk H1 e1 .same (steps_zip r r' h h') fun z => ?_⟩
              have := z _ _ (e1.fz.lst h)
              have := show _ ≤ sizeLine from this
              rw [r.length] at this
              rw [List.length_map, List.length_zip]
              omega
    · cases h3
end

/-! ### name = [..] on one line -/
section
variable {X : Cx} {W : Option Wd} {ow ow' owL : List Nat}
variable {elt tg iter : Expr} {ifs : List Expr} {scope : Scope} {own : List (Str × Nat)} {pos spos py : Pos} {src : Ro → M (List D)} {κ : Kd} {sl : List Nat} {b : BF} {t : Ro → M Bool} {el : Ro → M D} {i : Nat} {y : Str}
theorem S_setLc (hc : X.calm = true) (hN : X.N.Nodup) (hy : X.N[i]? = some y) (hyl : X.env.scope.names.lookup y = some .local) (hi : VI X W ow κ tg iter src) (ok : BlkOk X.N X.env.scope scope own) (hsl : ∀ i ∈ sl, i ∈ own.map (·.2))
    (hg : ∀ (s : Shared) (H : Hp) (C : Addr) (cl : List (Str × Addr)) (fp : List Addr), VG (Blk X s H scope C cl fp) W ow sl tg b)
    (ht : ∀ (s : Shared) (H : Hp) (C : Addr) (cl : List (Str × Addr)) (fp : List Addr), PTs (Blk X s H scope C cl fp) ifs (tT X.K W ow t))
    (he : ∀ (s : Shared) (H : Hp) (C : Addr) (cl : List (Str × Addr)) (fp : List Addr), VE (Blk X s H scope C cl fp) W ow .fz elt el)
    (hsw : swapsWith (.ListComp elt [⟨tg, iter, ifs, 0⟩] scope pos) (some (.Name y py)) spos.line X.env = pure true)
    (how : ow' = ins i ow := by decide)
    (hs : ∀ x, foldedSetIterable iter X.env x = pure x := by intro _; rfl) : VS X W ow ow' owL (.Assign [.Name y py] (.ListComp elt [⟨tg, iter, ifs, 0⟩] scope pos) spos) (setS i (lcE src (own.map (·.2)) b t el)) := by
  refine PS.weak (PS.unl (ps_setLc (g := tG X.K W ow sl b) (te := tV X.K W ow .fz el) hc hN hy hyl hsw (L3.PI.sized hi) ok hg ht he hs)) fun Dn σ H ⟨H0, F0, lk, F, ρ, n, r, n', s, hf, q⟩ => ?_
  obtain ⟨d, n1, h1, h2⟩ := M.bind_some.mp hf
  cases M.pure_some.mp h2
  subst how
  have := lc_end (Qd := fun v H1 => Dn.nx (σ.set i (some v)) H1) (own := own) (κ := κ) hsl (X := X) (W := W) (ow := ow) (b := b) (t := t) (el := el) (src := src) (σ := σ) (H := H)
    ⟨H0, F0, lk, F, ρ, n, d, _, s, h1, fun v H1 F1 e1 r1 => by
      obtain ⟨a, rfl, o, hn⟩ := r1
      exact q _ H1 F1 (s.fresh e1 o hn fun j => mem_ins)⟩
  exact this
end
end L3
namespace L3
open PySem PySem.Spec PyProof.Rows L2

/-! ### without a world, with one -/
section
variable {K : PySem.W.Frag} {W : Option Wd} {F : Hp}
mutual
theorem Rep.noW : ∀ {v : V} {d : D}, Rep K none F v d → Rep K W F v d
  | _, _, .non => .non
  | _, _, .bl b => .bl b
  | _, _, .int i => .int i
  | _, _, .str x h => .str x h
  | _, _, .tup h r => .tup h (Reps.noW r)
  | _, _, .lst h r => .lst h (Reps.noW r)
  | _, _, .rol h r => .rol h (Reps.noW r)
  | _, _, .dK h o e r => .dK h o e (Reps.noW r)
  | _, _, .dT h o e r => .dT h o e (Reps.noW r)
  | _, _, .w e => nomatch e
theorem Reps.noW : ∀ {vs : List V} {ds : List D}, Reps K none F vs ds → Reps K W F vs ds
  | _, _, .nil => .nil
  | _, _, .cons h r => .cons (Rep.noW h) (Reps.noW r)
end
end

/-! ### the law's world: w['at'], w['draws'], w['at'] += 1, its making -/
def wAtE (i : Nat) : Ro → M D := fun ρ n => match ρ[i]? with
  | some (some .w) => some (.int n, n)
  | _ => none
def wDrE (dr : List Int) (i : Nat) : Ro → M D := fun ρ n => match ρ[i]? with
  | some (some .w) => some (.lst (dr.map .int), n)
  | _ => none
def tickS (i : Nat) : SF := fun ρ n => match ρ[i]? with
  | some (some .w) => some (.nx ρ, n + 1)
  | _ => none
theorem wAtE_some {i : Nat} {ρ : Ro} {n : Nat} {r : D × Nat} (h : wAtE i ρ n = some r) : ρ[i]? = some (some .w) ∧ r = (.int n, n) := by
  unfold wAtE at h
  split at h
  · exact ⟨by assumption, (Option.some.inj h).symm⟩
  · cases h
theorem wDrE_some {dr : List Int} {i : Nat} {ρ : Ro} {n : Nat} {r : D × Nat} (h : wDrE dr i ρ n = some r) : ρ[i]? = some (some .w) ∧ r = (.lst (dr.map .int), n) := by
  unfold wDrE at h
  split at h
  · exact ⟨by assumption, (Option.some.inj h).symm⟩
  · cases h
theorem tickS_some {i : Nat} {ρ : Ro} {n : Nat} {r : Out × Nat} (h : tickS i ρ n = some r) : ρ[i]? = some (some .w) ∧ r = (.nx ρ, n + 1) := by
  unfold tickS at h
  split at h
  · exact ⟨by assumption, (Option.some.inj h).symm⟩
  · cases h
section
variable {X : Cx} {W0 : Wd} {ow owL : List Nat} {pos p tpos p1 p2 : Pos} {i : Nat} {x : Str} {j : Nat}
theorem W_name (h : Rep X.K (some W0) F v .w) : v = .ref W0.aw := by
  cases h with
  | w e => cases e; rfl
theorem V_wAt (hu : X.A.units + 100 < cLine) (hi : i ∉ ow) (hv : PE X (.Name x p) (tVar i)) {j} (hs : NoSl (.Constant (.str "at") j p1) := by first | exact fun _ => rfl | exact fun _ _ => rfl | trivial) : VE X (some W0) ow .fz (.Subscript (.Name x p) (.Constant (.str "at") j p1) pos) (wAtE i) :=
  PE.weak (pe_dget (by omega) hv (pe_str (x := "at")) hs) fun σ H Q ⟨H0, F0, lk, F, ρ, n, d, n', s, hf, q⟩ => by
    obtain ⟨h1, e⟩ := wAtE_some hf
    cases e
    obtain ⟨v, hv, r⟩ := s.env i _ h1 hi
    cases W_name r
    exact ⟨_, hv, W0.aw, .int n, rfl, .inl ⟨_, kAt, .inl s.wd.1, rfl, rfl⟩, q _ H F s.refl (.int _)⟩
theorem V_wDr (hu : X.A.units + 100 < cLine) (hi : i ∉ ow) (hv : PE X (.Name x p) (tVar i)) {j} (hs : NoSl (.Constant (.str "draws") j p1) := by first | exact fun _ => rfl | exact fun _ _ => rfl | trivial) : VE X (some W0) ow .fz (.Subscript (.Name x p) (.Constant (.str "draws") j p1) pos) (wDrE W0.dr i) :=
  PE.weak (pe_dget (by omega) hv (pe_str (x := "draws")) hs) fun σ H Q ⟨H0, F0, lk, F, ρ, n, d, n', s, hf, q⟩ => by
    obtain ⟨h1, e⟩ := wDrE_some hf
    cases e
    obtain ⟨v, hv, r⟩ := s.env i _ h1 hi
    cases W_name r
    exact ⟨_, hv, W0.aw, .ref W0.ad, rfl, .inl ⟨_, kDr, .inl s.wd.1, rfl, rfl⟩, q _ H F s.refl (.lst s.wd.2.2 (reps_ints _))⟩
theorem SR.tick {K : PySem.W.Frag} {H0 F0 : Hp} {lk : Lk} {σ : L2.St} {H F : Hp} {ρ : Ro} {n n' : Nat} (s : SR K (some W0) ow H0 F0 lk σ H F ρ n) : SR K (some W0) ow H0 F0 lk σ (L2.upd H W0.aw (wst W0 n')) F ρ n' := by
  have fn : F W0.aw = none := s.wd.2.1
  have nl : ∀ ob u, (W0.aw, ob, u) ∉ lk := fun ob u z => by
    have := (s.fz.lk _ ob u z).2.2
    rw [fn] at this; cases this
  refine ⟨s.len, s.env, fun k d h hk => ?_, s.sep, s.f0, s.new, fun a o h nw => ?_, ⟨fun a u h => ?_, fun a ob u h => ?_⟩, ⟨upd_same, fn, s.wd.2.2⟩⟩
  · obtain ⟨a, h1, ⟨q1, q2, u, q3, q4⟩, h3⟩ := s.own k d h hk
    exact ⟨a, h1, ⟨q1, q2, u, by rw [upd_ne (show a ≠ W0.aw from q2)]; exact q3, q4⟩, h3⟩
  · rw [upd_ne (show a ≠ W0.aw from nw)]; exact s.h0 a o h nw
  · rw [upd_ne (fun z => by rw [z, fn] at h; cases h)]; exact s.fz.st a u h
  · obtain ⟨z1, z2, z3⟩ := s.fz.lk a ob u h
    refine ⟨?_, z2, z3⟩
    rw [upd_ne (fun z => by subst z; exact nl _ _ h)]; exact z1
theorem S_tick (hu : X.A.units + 100 < cLine) (hi : i ∉ ow) (hv : PE X (.Name x p) (tVar i)) {j j2} (hs : NoSl (.Constant (.str "at") j p1) := by first | exact fun _ => rfl | exact fun _ _ => rfl | trivial)
    (ha : ∀ ov iv new, augStore (.Subscript (.Name x p) (.Constant (.str "at") j p1) tpos) ov iv new = (do holding [new, ov, iv] (setItem ov iv new); release [new, ov, iv] []; pure .next) := by intro _ _ _; rfl) : VS X (some W0) ow ow owL (.AugAssign (.Subscript (.Name x p) (.Constant (.str "at") j p1) tpos) .Add (.Constant (.int 1) j2 p2) pos) (tickS i) :=
  PS.weak (ps_daug (by omega) hv (pe_str (x := "at")) pe_int in_add ha) fun Dn σ H ⟨H0, F0, lk, F, ρ, n, r, n', s, hf, q⟩ => by
    obtain ⟨h1, e⟩ := tickS_some hf
    cases e
    obtain ⟨v, hv, r⟩ := s.env i _ h1 hi
    cases W_name r
    refine ⟨_, hv, W0.aw, .int n, rfl, .inl ⟨_, kAt, .inl s.wd.1, rfl, rfl⟩, n, 1, rfl, rfl, _, .inl ⟨_, kAt, s.wd.1, rfl, by show 2 < sizeLine; decide, rfl⟩, ?_⟩
    exact q σ _ F (s.tick (n' := n + 1))
end
/-- w = {'draws': e, 'at': 0}, and what follows: it ends with a truth value -/
def worldS (i : Nat) (f : Ro → M D) (G : List Int → SF) : SF := fun ρ n => match f ρ n with
  | some (.lst xs, _) => match intsD xs with
    | some dr => match G dr (ρ.set i (some .w)) 0 with
      | some (.rt (.bl b), m) => some (.rt (.bl b), m)
      | _ => none
    | none => none
  | _ => none
theorem worldS_some {i : Nat} {f : Ro → M D} {G : List Int → SF} {ρ : Ro} {n n' : Nat} {r : Out} (h : worldS i f G ρ n = some (r, n')) : ∃ dr n1 b, f ρ n = some (.lst (dr.map .int), n1) ∧ G dr (ρ.set i (some .w)) 0 = some (.rt (.bl b), n') ∧ r = .rt (.bl b) := by
  unfold worldS at h
  split at h
  · rename_i xs n1 e
    split at h
    · rename_i dr e2
      split at h
      · rename_i b m e3
        cases h
        exact ⟨dr, n1, b, by rw [e, intsD_some e2], e3, rfl⟩
      · cases h
    · cases h
  · cases h
section
variable {X : Cx} {ow' owL ow2 : List Nat} {pos pd px p1 p2 p3 : Pos} {i : Nat} {x : Str} {e : Expr} {f : Ro → M D} {sts : List Stmt} {G : List Int → SF} {j1 j2 j3 : Option Str}
theorem S_world {k1 k2 k3} (hN : X.N.Nodup) (hi : X.N[i]? = some x) (hx : Loc X.env.scope x) (he : VE X none [] .fz e f) (h : ∀ W0 : Wd, VSs X (some W0) [] ow' owL sts (G W0.dr))
    (hs : swapsWith (.Dict [some (.Constant (.str "draws") k1 p1), some (.Constant (.str "at") k2 p2)] [e, .Constant (.int 0) k3 p3] pd) (some (.Name x px)) pos.line X.env = pure false := by rfl)
    (hf : X.fn x = true ∨ X.env.scope.names.lookup x = some .local := by first | exact .inl rfl | exact .inr rfl | assumption) :
    VSs X none [] ow2 owL (.Assign [.Name x px] (.Dict [some (.Constant (.str "draws") k1 p1), some (.Constant (.str "at") k2 p2)] [e, .Constant (.int 0) k3 p3] pd) pos :: sts) (worldS i f G) := by
  have rest : PSs X sts (fun Dn σ H => ∃ W0 : Wd, tS X.K (some W0) [] ow' owL (G W0.dr) Dn σ H) := ⟨fun pins s σ H D I ⟨W0, hw⟩ => (h W0).run pins s σ H D I hw⟩
  refine PSs.weak (pss_cons (ps_set hN hi hx (pe_disp (pps_cons (pe_str (x := "draws")) he (pps_cons (pe_str (x := "at")) pe_int pps_nil)) rfl rfl (by simp) (by show 2 ≤ 15; decide)) hs hf) rest) fun Dn σ H ⟨H0, F0, lk, F, ρ, n, r, n', s, hf, q⟩ => ?_
  obtain ⟨dr, n1, b, h1, h2, rfl⟩ := worldS_some hf
  intro p hp
  have fp := s.fz.none hp
  have e1 : Ext none lk H F n (upd H p (.dK [])) F n := .new_obj s.fz s.wd hp
  refine ⟨H0, F0, lk, F, ρ, n, _, n1, s.ext e1, h1, fun v H2 F2 e2 r2 => ?_⟩
  have o1 : OwnAt X.K none (upd H p (.dK [])) F p (.dK []) := ⟨fp, trivial, _, upd_same, .dK rfl rfl .nil⟩
  have o2 := o1.ext e2
  have hp2 : H2 p = some (.dK []) := e2.h _ _ upd_same trivial
  have s2 := (s.ext e1).ext e2
  cases r2 with
  | @lst ad vs ds hF hR =>
    have hv := hR.ints
    subst hv
    refine ⟨hp2, [(kDr, .ref ad), (kAt, .int 0)], rfl, by show 2 ≤ 15; decide, ?_⟩
    let W0 : Wd := ⟨p, ad, dr⟩
    have h0p : H0 p = none := by
      cases z : H0 p with
      | none => rfl
      | some u =>
        rcases s.h0 p u z trivial with w | ⟨ob, w⟩
        · rw [hp] at w; cases w
        · have := (s.fz.lk _ _ _ w).1; rw [hp] at this; cases this
    have nl : ∀ ob u, (p, ob, u) ∉ lk := fun ob u z => by
      have := (s.fz.lk _ ob u z).1; rw [hp] at this; cases this
    have same : ∀ {v d}, Rep X.K none F2 v d → d ≠ .w := fun r e => by subst e; cases r with | w e => cases e
    -- what stood without a world stands with one
    have lift : ∀ (v : V) (d : D), Rep X.K none F2 v d → Rep X.K (some W0) F2 v d := fun v d r => Rep.noW r
    refine ⟨W0, H0, F0, lk, F2, _, 0, _, _, ?_, h2, ?_⟩
    · refine ⟨by rw [List.length_set, List.length_set]; exact s2.len, fun k d hk _ => ?_, fun _ _ _ hk => (by simp at hk), fun _ _ _ _ _ hk => (by simp at hk), s2.f0, s2.new, fun a o ha nw => ?_, ⟨fun a u ha => ?_, fun a ob u ha => ?_⟩, ⟨upd_same, o2.1, hF⟩⟩
      · rcases get_set hk with ⟨rfl, e3, hl⟩ | ⟨ne, hk⟩
        · cases e3
          exact ⟨.ref p, List.getElem?_set_self (by rw [← s2.len]; exact hl), .w (W0 := W0) rfl⟩
        · obtain ⟨v, g1, g2⟩ := s2.env k d hk (by simp)
          exact ⟨v, by rw [set_get ne]; exact g1, lift _ _ g2⟩
      · rw [upd_ne (show a ≠ p from nw)]
        exact s2.h0 a o ha trivial
      · rw [upd_ne (fun z => by subst z; rw [o2.1] at ha; cases ha)]
        exact s2.fz.st a u ha
      · obtain ⟨z1, z2, z3⟩ := s2.fz.lk a ob u ha
        refine ⟨?_, z2, z3⟩
        rw [upd_ne (fun z => by subst z; exact nl _ _ ha)]
        exact z1
    · intro v H' F' sh rv
      refine q v H' F' ⟨sh.f0, sh.new, fun a o ha _ => ?_, sh.fz, trivial⟩ ?_
      · refine sh.h0 a o ha ?_
        show a ≠ p
        intro z
        subst z
        rw [h0p] at ha; cases ha
      · cases rv; exact .bl _
end
end L3
namespace L3
open PySem PySem.Spec PyProof.Rows L2

/-- a def that may be called: k its level -/
structure Cal (P : Program) (w : World) (K : PySem.W.Frag) (mg : Str → Option Value) (base : Heap) (x : Str) (ps : List Str) (k : Nat) (sp : Sp) : Prop where
  ex : ∃ f fd, FnOk P w K mg base CX0 k f fd ps sp ∧ mg x = some (.ref f) ∧ PySem.W.keepIn K (.ref f) = true ∧ Binds K fd ps []
section
variable {X : Cx} {W : Option Wd} {ow : List Nat} {pos p : Pos} {e : Expr} {es : List Expr} {fs : Ro → M (List D)} {g : List D → M D} {x : Str} {ps : List Str} {k j m : Nat}
theorem V_cal (C : Cal X.prog X.w X.K X.mg X.base x ps k (spD X.K W m g)) (hr : Room j X.A) (hj : k ≤ j) (hg : Gl X x) (ha : VA X W ow (e :: es) fs) (hlen : (e :: es).length = m)
    (hfs : ∀ ρ n ds n', fs ρ n = some (ds, n') → ds.length = (e :: es).length)
    (hdb : (x == ("__debug__" : Str)) = false := by decide) (he : starEach (e :: es) X.env = (false, eval e X.env) :: starEach es X.env := by rfl) (hpl : (backTo pos (starEach es X.env)).any (·.1) = false := by rfl) :
    VE X W ow .fz (.Call (.Name x p) (e :: es) [] pos) (callE fs g) := by
  obtain ⟨f, fd, F, hm, hk, hb⟩ := C.ex
  exact V_call F (hr.mono hj) hg hm hk hb ha hlen hfs hdb he hpl
theorem hu100 {j : Nat} {A : Around} (r : Room j A) : A.units + 100 < cLine := by have := r.un; omega
end
/-- the law's own promise -/
def spLaw (K : PySem.W.Frag) : Sp := fun vs H Q _ => ∃ (a : Addr) (ns : List Int), vs = [.ref a] ∧ SqL K H a (ns.map V.int) ∧ ns.length ≤ 63 ∧ ∀ H', Q (.bl true) H'
section
variable {P : Program} {w : World} {K : PySem.W.Frag} {mg : Str → Option Value} {base : Heap}
theorem fn_law {x qual : Str} {st : Stmt} {f : Addr} {fd : FuncData} {N : List Str} {s0 : Str} {k : Nat} {body : SF} {ow' owL : List Nat} (F : Fun K x qual st f fd) (S : FnScope N [s0] (defScope st))
    (hb : ∀ (cdv : Value) (A : Around) (outer : List Env) (s : Shared) (H : Hp) (E : XK), Room k (A.deeper (envOfC qual (defScope st) s.heap.objs.size f cdv)) → VSs (cxOf CX0 P w K mg base N qual (defScope st) f cdv A outer s H E).nox none [] ow' owL (defBody st) body)
    (hm : ∀ ns : List Int, ns.length ≤ 63 → ∃ n', body (some (.rol (ns.map .int)) :: List.replicate (N.length - 1) none) 0 = some (.rt (.bl true), n')) :
    FnOk P w K mg base CX0 (k + 1) f fd [s0] (spLaw K) := by
  refine F.ok S (fun vs H Q E ⟨a, ns, e, _⟩ => by rw [e]; rfl) fun cdv A outer s H vs Q E hr h => ?_
  obtain ⟨a, ns, rfl, hS, hl, q⟩ := h
  refine ⟨_, hb cdv A outer s H E hr, ?_⟩
  obtain ⟨n', h1⟩ := hm ns hl
  let F0 : Hp := fun b => if b = a then H b else none
  have sF : SqL K F0 a (ns.map V.int) := by
    have e : F0 a = H a := if_pos rfl
    rcases hS with h | h
    · exact .inl (h.elim (fun z => .inl (by rw [e]; exact z)) fun ⟨o, z⟩ => .inr ⟨o, by rw [e]; exact z⟩)
    · exact .inr h
  have fz : FOk [] F0 H := .mk (fun b u h => by
    show H b = some u ∨ _
    have h : (if b = a then H b else none) = some u := h
    split at h
    · exact .inl h
    · cases h) (fun b ob u h => nomatch h)
  have rp : Reps K none F0 [.ref a] [.rol (ns.map .int)] := .one (.rol sF (reps_ints ns))
  have sr := SR.begin (W := none) (n := 0) N fz trivial rp
  have fin : OutOk K none ow' owL H F0 [] n' { nx := fun _ H' => Q .non H', rt := Q } (.rt (.bl true)) := fun v H' F' sh rv => by cases rv; exact q H'
  exact ⟨H, F0, [], F0, _, 0, _, n', sr, h1, fin⟩
end
end L3
namespace L3
open PySem PySem.Spec PyProof.Rows L2
section
variable {X : Cx} {W : Option Wd} {ow : List Nat} {c : Expr} {t : Ro → M Bool}
theorem TS_nil : PTs X [] (tT X.K W ow yesT) := ⟨fun pins s σ H Q I ⟨H0, F0, lk, F, ρ, n, b, n', s', hf, q⟩ => by
  cases M.pure_some.mp hf
  exact pts_nil.run pins s σ H Q I (q H F s'.refl)⟩
theorem TS_one (h : VT X W ow c t) : PTs X [c] (tT X.K W ow t) := pts_one h
end
section
variable {X : Cx} {W : Option Wd} {ow : List Nat} {e : Expr} {es : List Expr} {κ : Kd} {f : Ro → M D} {fs : KF}
theorem KA_nil : PA X [] (tKs X.K W ow []) := pa_nil
theorem KA_cons (h : VE X W ow κ e f) (hr : PA X es (tKs X.K W ow fs)) (hs : starEach (e :: es) X.env = (false, eval e X.env) :: starEach es X.env := by rfl) : PA X (e :: es) (tKs X.K W ow ((κ, f) :: fs)) := pa_cons h hr hs
end
abbrev ltC : D → D → Option D := intC fun i j => decide (i < j)
abbrev leC : D → D → Option D := intC fun i j => decide (i ≤ j)
abbrev gtC : D → D → Option D := intC fun i j => decide (j < i)
abbrev geC : D → D → Option D := intC fun i j => decide (j ≤ i)
abbrev iadd : D → D → Option D := intOp (fun _ _ => true) fun i j => i + j
abbrev isub : D → D → Option D := intOp (fun _ _ => true) fun i j => i - j
end L3
namespace L3
open PySem PySem.Spec PyProof.Rows L2
section
variable {P : Program} {w : World} {K : PySem.W.Frag} {mg : Str → Option Value} {base : Heap} {W : Option Wd}
theorem FnOk.fail0 {k m : Nat} {f : Addr} {fd : FuncData} {ps : List Str} {g : List D → M D} (h : ∀ ds n, g ds n = none) : FnOk P w K mg base CX0 k f fd ps (spD K W m g) := by
  refine .mk (fun vs H Q E z => ?_) (fun A outer s H args us vs Q E _ _ _ _ z => ?_)
  · obtain ⟨lk, F, n, ds, d, n', _, _, _, _, hg, _⟩ := z
    rw [h] at hg; cases hg
  · obtain ⟨lk, F, n, ds, d, n', _, _, _, _, hg, _⟩ := z
    rw [h] at hg; cases hg
end
end L3
namespace K28
open PySem PySem.Spec PyProof.Rows L2 L3
def f_is_number : SF := (retS (andE (un (nameE 0) (isiD "int")) (notE (un (nameE 0) (isiD "bool")))))
def g_is_number : List D → M D := runD 0 f_is_number
def f_is_tuple_of : SF := (retS (andE (un (nameE 0) (isiD "tuple")) (eqE (lenE (nameE 0)) (nameE 1))))
def g_is_tuple_of : List D → M D := runD 0 f_is_tuple_of
def f_is_name : SF := (seqS (ifS (orT (notT (asB (un (nameE 0) (isiD "str")))) (orT (asB (eqE (nameE 0) (cE (.str "")))) (asB (ninE (bin (nameE 0) (cE (.int 0)) ixD) (cE (.str "abcdefghijklmnopqrstuvwxyz")))))) (retS (cE (.bl false))) nilS) (retS (un (lcE (seqE (nameE 0)) [1] (bindN 1) yesT (orE (inE (nameE 1) (cE (.str "abcdefghijklmnopqrstuvwxyz"))) (inE (nameE 1) (cE (.str "0123456789"))))) allD)))
def g_is_name : List D → M D := runD 1 f_is_name
def f_is_entry : SF := (seqS (ifS (orT (notT (asB (callE (consA (nameE 0) (consA (cE (.int 4)) nilA)) (g_is_tuple_of)))) (orT (notT (asB (callE (consA (bin (nameE 0) (cE (.int 0)) ixD) nilA) (g_is_number)))) (orT (notT (asB (callE (consA (bin (nameE 0) (cE (.int 2)) ixD) nilA) (g_is_number)))) (notT (asB (callE (consA (bin (nameE 0) (cE (.int 3)) ixD) nilA) (g_is_name))))))) (retS (cE (.bl false))) nilS) (retS (orE (bin (bin (nameE 0) (cE (.int 1)) ixD) (cE .non) isN) (andE (callE (consA (bin (nameE 0) (cE (.int 1)) ixD) nilA) (g_is_number)) (bin (bin (nameE 0) (cE (.int 0)) ixD) (bin (nameE 0) (cE (.int 1)) ixD) ltC)))))
def g_is_entry : List D → M D := runD 0 f_is_entry
def f_are_entries : SF := (seqS (ifS (orT (notT (asB (un (nameE 0) (isiD "tuple")))) (notT (asB (un (lcE (seqE (nameE 0)) [1] (bindN 1) yesT (callE (consA (nameE 1) nilA) (g_is_entry))) allD)))) (retS (cE (.bl false))) nilS) (retS (un (lcE (rng1E (bin (lenE (nameE 0)) (cE (.int 1)) subD)) [2] (bindN 2) yesT (bin (bin (bin (nameE 0) (nameE 2) ixD) (cE (.int 2)) ixD) (bin (bin (nameE 0) (bin (nameE 2) (cE (.int 1)) addD) ixD) (cE (.int 2)) ixD) leC)) allD)))
def g_are_entries : List D → M D := runD 2 f_are_entries
def f_has_day : SF := (retS (andE (bin (bin (nameE 0) (cE (.int 0)) ixD) (nameE 1) leC) (orE (bin (bin (nameE 0) (cE (.int 1)) ixD) (cE .non) isN) (bin (nameE 1) (bin (nameE 0) (cE (.int 1)) ixD) ltC))))
def g_has_day : List D → M D := runD 0 f_has_day
def f_held : SF := (seqS (setS 3 (lcE (seqE (nameE 0)) [4] (bindN 4) (andT (asB (bin (bin (nameE 4) (cE (.int 2)) ixD) (nameE 2) leC)) (asB (callE (consA (nameE 4) (consA (nameE 1) nilA)) (g_has_day)))) (nameE 4))) (retS (ifE (asB (neE (nameE 3) (mapA nilA lstD))) (bin (bin (nameE 3) (un (cE (.int 1)) negD) ixD) (cE (.int 3)) ixD) (cE .non))))
def g_held : List D → M D := runD 2 f_held
def f_cuts_of : SF := (seqS (setS 2 (mapA nilA lstD)) (seqS (forS (iterE (nameE 0)) (bindT ((bindN 3) :: ((bindN 4) :: ((bindN 5) :: ((bindN 6) :: []))))) [3, 4, 5, 6] (seqS (ifS (asB (bin (nameE 5) (nameE 1) leC)) (seqS (mutS 2 (bin (mapA (consA (nameE 3) nilA) lstD) (ifE (asB (bin (nameE 4) (cE .non) isNN)) (mapA (consA (nameE 4) nilA) lstD) (mapA nilA lstD)) addD) extD) nilS) nilS) nilS)) (retS (un (nameE 2) sortSetD))))
def g_cuts_of : List D → M D := runD 5 f_cuts_of
def f_row_as_known : SF := (seqS (setS 2 (callE (consA (nameE 0) (consA (nameE 1) nilA)) (g_cuts_of))) (seqS (setS 3 (mapA nilA lstD)) (seqS (forS (zipE (consA (nameE 2) (consA (bin (sl (nameE 2) (aPart (cE (.int 1))) noPart) (mapA (consA (cE .non) nilA) lstD) addD) nilA))) (bindT ((bindN 4) :: ((bindN 5) :: []))) [4, 5, 6] (seqS (setS 6 (callE (consA (nameE 0) (consA (nameE 4) (consA (nameE 1) nilA))) (g_held))) (seqS (ifS (asB (bin (nameE 6) (cE .non) isNN)) (seqS (ifS (andT (asB (neE (nameE 3) (mapA nilA lstD))) (asB (eqE (sl (bin (nameE 3) (un (cE (.int 1)) negD) ixD) (aPart (cE (.int 1))) noPart) (mapA (consA (nameE 4) (consA (nameE 6) nilA)) tupD)))) (seqS (putS 3 (un (cE (.int 1)) negD) (mapA (consA (bin (bin (nameE 3) (un (cE (.int 1)) negD) ixD) (cE (.int 0)) ixD) (consA (nameE 5) (consA (nameE 6) nilA))) tupD)) nilS) (seqS (mutS 3 (mapA (consA (nameE 4) (consA (nameE 5) (consA (nameE 6) nilA))) tupD) appD) nilS)) nilS) nilS) nilS))) (retS (un (nameE 3) tupleD)))))
def g_row_as_known : List D → M D := runD 5 f_row_as_known
def f_changed_back : SF := (seqS (setS 1 (mapA nilA lstD)) (seqS (forS (rng1E (lenE (nameE 0))) (bindN 2) [2, 3, 4, 5, 6, 7, 8] (seqS (unpS (bin (nameE 0) (nameE 2) ixD) (bindT ((bindN 3) :: ((bindN 4) :: ((bindN 5) :: ((bindN 6) :: [])))))) (seqS (setS 7 (ifE (asB (bin (nameE 4) (cE .non) isN)) (nameE 5) (bin (nameE 4) (nameE 5) min2D))) (seqS (ifS (asB (bin (nameE 3) (nameE 7) ltC)) (seqS (setS 8 (un (lcE (seqE (bin (callE (consA (sl (nameE 0) noPart (aPart (nameE 2))) (consA (nameE 5) nilA)) (g_cuts_of)) (mapA (consA (nameE 3) nilA) lstD) addD)) [9] (bindN 9) (asB (chainE (nameE 3) (nameE 9) (nameE 7) leC ltC)) (nameE 9)) sortSetD)) (seqS (ifS (asB (un (lcE (seqE (nameE 8)) [9] (bindN 9) yesT (neE (callE (consA (sl (nameE 0) noPart (aPart (nameE 2))) (consA (nameE 9) (consA (nameE 5) nilA))) (g_held)) (nameE 6))) anyD)) (seqS (mutS 1 (mapA (consA (nameE 5) (consA (nameE 3) (consA (nameE 7) nilA))) tupD) appD) nilS) nilS) nilS)) nilS) nilS)))) (retS (un (un (nameE 1) sortD) tupleD))))
def g_changed_back : List D → M D := runD 9 f_changed_back
def f_same_now : SF := (seqS (setS 2 (un (bin (mapA (consA (cE (.int 0)) nilA) lstD) (lcE (seqE (bin (nameE 0) (nameE 1) addD)) [3] (bindN 3) yesT (bin (nameE 3) (cE (.int 2)) ixD)) addD) maxD)) (retS (eqE (callE (consA (nameE 0) (consA (nameE 2) nilA)) (g_row_as_known)) (callE (consA (nameE 1) (consA (nameE 2) nilA)) (g_row_as_known)))))
def g_same_now : List D → M D := runD 2 f_same_now
def f_least_entries : SF := (retS (un (lcE (seqE (nameE 0)) [2, 3, 4] (bindT ((bindN 2) :: ((bindN 3) :: ((bindN 4) :: [])))) yesT (mapA (consA (nameE 2) (consA (nameE 3) (consA (nameE 1) (consA (nameE 4) nilA)))) tupD)) tupleD))
def g_least_entries : List D → M D := runD 3 f_least_entries
def f_law_draws : SF := (seqS (setS 2 (mapA nilA lstD)) (seqS (setS 3 (cE (.int 7))) (seqS (forS (rng1E (lenE (nameE 0))) (bindN 4) [4, 5, 6, 7] (seqS (setS 5 (un (un (bin (nameE 0) (nameE 4) ixD) intD) absD)) (seqS (setS 3 (bin (un (bin (bin (bin (nameE 3) (cE (.int 48271)) mulD) (bin (nameE 5) (cE (.int 1000003)) modD) addD) (nameE 4) addD) intD) (cE (.int 65537)) modD)) (seqS (setS 6 (cE (.int 0))) (seqS (ifS (asB (bin (nameE 5) (bin (cE (.int 10)) (cE (.int 18)) powD) geC)) (seqS (setS 6 (nameE 5)) nilS) (seqS (mutS 2 (bin (un (nameE 5) intD) (cE (.int 997)) modD) appD) (seqS (mutS 2 (bin (bin (un (bin (bin (nameE 3) (cE (.int 69621)) mulD) (cE (.int 5)) addD) intD) (cE (.int 65521)) modD) (cE (.int 997)) modD) appD) nilS))) (seqS (forS (rng1E (cE (.int 60))) (bindN 7) [7] (seqS (ifS (asB (bin (nameE 6) (cE (.int 0)) gtC)) (seqS (mutS 2 (bin (un (nameE 6) intD) (cE (.int 997)) modD) appD) (seqS (setS 6 (bin (nameE 6) (cE (.int 997)) divD)) nilS)) nilS) nilS)) nilS)))))) (seqS (forS (rng1E (nameE 1)) (bindN 4) [4] (seqS (setS 3 (bin (un (bin (bin (bin (nameE 3) (cE (.int 16807)) mulD) (nameE 4) addD) (cE (.int 1)) addD) intD) (cE (.int 65537)) modD)) (seqS (mutS 2 (bin (un (nameE 3) intD) (cE (.int 997)) modD) appD) nilS))) (retS (sl (nameE 2) noPart (aPart (nameE 1))))))))
def g_law_draws : List D → M D := runD 6 f_law_draws
def f_law_next (dr : List Int) : SF := (seqS (tickS 0) (seqS (ifS (asB (bin (wAtE 0) (lenE (wDrE dr 0)) gtC)) (retS (cE (.int 0))) nilS) (retS (bin (un (bin (wDrE dr 0) (bin (wAtE 0) (cE (.int 1)) subD) ixD) intD) (nameE 1) modD))))
def g_law_next (dr : List Int) : List D → M D := runD 0 (f_law_next dr)
def f_law_pick (dr : List Int) : SF := (retS (bin (nameE 1) (callE (consA (nameE 0) (consA (lenE (nameE 1)) nilA)) (g_law_next dr)) ixD))
def g_law_pick (dr : List Int) : List D → M D := runD 0 (f_law_pick dr)
def f_law_alike (gg : List D → M D) : SF := (seqS (ifS (asB (un (nameE 1) (isiD "tuple"))) (seqS (ifS (orT (notT (asB (un (nameE 0) (isiD "tuple")))) (asB (neE (lenE (nameE 0)) (lenE (nameE 1))))) (retS (cE (.bl false))) nilS) (retS (eqE (lcE (rng1E (lenE (nameE 1))) [2] (bindN 2) (notT (asB (callE (consA (bin (nameE 0) (nameE 2) ixD) (consA (bin (nameE 1) (nameE 2) ixD) nilA)) (gg)))) (nameE 2)) (mapA nilA lstD)))) nilS) (seqS (ifS (asB (bin (nameE 1) (cE .non) isN)) (retS (bin (nameE 0) (cE .non) isN)) nilS) (seqS (ifS (asB (un (nameE 1) (isiD "bool"))) (retS (andE (un (nameE 0) (isiD "bool")) (eqE (nameE 0) (nameE 1)))) nilS) (seqS (ifS (asB (un (nameE 1) (isiD "int"))) (retS (andE (un (nameE 0) (isiD "int")) (andE (notE (un (nameE 0) (isiD "bool"))) (eqE (nameE 0) (nameE 1))))) nilS) (retS (andE (un (nameE 0) (isiD "str")) (eqE (nameE 0) (nameE 1))))))))
def g_law_alike : Nat → List D → M D
  | 0 => fun _ => fail
  | k + 1 => runD 1 (f_law_alike (g_law_alike k))
def f_law_entries (dr : List Int) : SF := (seqS (parS [1, 2] [(.fr, (mapA nilA lstD)), (.fz, (callE (consA (nameE 0) (consA (cE (.int 4)) nilA)) (g_law_next dr)))]) (seqS (forS (rng1E (callE (consA (nameE 0) (consA (cE (.int 8)) nilA)) (g_law_next dr))) (bindN 3) [3, 4] (seqS (setS 4 (callE (consA (nameE 0) (consA (cE (.int 9)) nilA)) (g_law_next dr))) (seqS (mutS 1 (mapA (consA (nameE 4) (consA (ifE (asB (eqE (callE (consA (nameE 0) (consA (cE (.int 4)) nilA)) (g_law_next dr)) (cE (.int 0)))) (cE .non) (bin (bin (nameE 4) (cE (.int 1)) addD) (callE (consA (nameE 0) (consA (cE (.int 6)) nilA)) (g_law_next dr)) addD)) (consA (nameE 2) (consA (callE (consA (nameE 0) (consA (mapA (consA (cE (.str "a")) (consA (cE (.str "b")) (consA (cE (.str "c1")) nilA))) lstD) nilA)) (g_law_pick dr)) nilA)))) tupD) appD) (seqS (augS 2 (callE (consA (nameE 0) (consA (cE (.int 4)) nilA)) (g_law_next dr)) iadd) nilS)))) (retS (un (nameE 1) tupleD))))
def g_law_entries (dr : List Int) : List D → M D := runD 4 (f_law_entries dr)
def f_law_held : SF := (seqS (setS 3 (lcE (seqE (nameE 0)) [4] (bindN 4) (andT (asB (bin (bin (nameE 4) (cE (.int 2)) ixD) (nameE 2) leC)) (andT (asB (bin (bin (nameE 4) (cE (.int 0)) ixD) (nameE 1) leC)) (orT (asB (bin (bin (nameE 4) (cE (.int 1)) ixD) (cE .non) isN)) (asB (bin (nameE 1) (bin (nameE 4) (cE (.int 1)) ixD) ltC))))) (bin (nameE 4) (cE (.int 3)) ixD))) (retS (ifE (asB (neE (nameE 3) (mapA nilA lstD))) (bin (nameE 3) (bin (lenE (nameE 3)) (cE (.int 1)) subD) ixD) (cE .non))))
def g_law_held : List D → M D := runD 2 f_law_held
def f_law_row : SF := (seqS (parS [2, 3] [(.fr, (mapA nilA lstD)), (.fz, (cE .non))]) (seqS (forS (rng2E (un (cE (.int 1)) negD) (cE (.int 21))) (bindN 4) [4, 5] (seqS (setS 5 (callE (consA (nameE 0) (consA (nameE 4) (consA (nameE 1) nilA))) (g_law_held))) (seqS (ifS (andT (asB (neE (nameE 5) (nameE 3))) (asB (bin (nameE 3) (cE .non) isNN))) (seqS (putS 2 (bin (lenE (nameE 2)) (cE (.int 1)) subD) (mapA (consA (bin (bin (nameE 2) (bin (lenE (nameE 2)) (cE (.int 1)) subD) ixD) (cE (.int 0)) ixD) (consA (nameE 4) (consA (nameE 3) nilA))) tupD)) nilS) nilS) (seqS (ifS (andT (asB (neE (nameE 5) (nameE 3))) (asB (bin (nameE 5) (cE .non) isNN))) (seqS (mutS 2 (mapA (consA (nameE 4) (consA (cE .non) (consA (nameE 5) nilA))) tupD) appD) nilS) nilS) (seqS (setS 3 (nameE 5)) nilS))))) (retS (un (nameE 2) tupleD))))
def g_law_row : List D → M D := runD 4 f_law_row
def f_law_are : SF := (seqS (ifS (notT (asB (un (nameE 0) (isiD "tuple")))) (retS (cE (.bl false))) nilS) (seqS (forS (iterE (nameE 0)) (bindN 1) [1] (seqS (ifS (orT (notT (asB (un (nameE 1) (isiD "tuple")))) (asB (neE (lenE (nameE 1)) (cE (.int 4))))) (retS (cE (.bl false))) nilS) (seqS (ifS (asB (neE (lcE (seqE (mapA (consA (bin (nameE 1) (cE (.int 0)) ixD) (consA (bin (nameE 1) (cE (.int 2)) ixD) nilA)) tupD)) [2] (bindN 2) (orT (notT (asB (un (nameE 2) (isiD "int")))) (asB (un (nameE 2) (isiD "bool")))) (nameE 2)) (mapA nilA lstD))) (retS (cE (.bl false))) nilS) (seqS (ifS (andT (asB (bin (bin (nameE 1) (cE (.int 1)) ixD) (cE .non) isNN)) (orT (notT (asB (un (bin (nameE 1) (cE (.int 1)) ixD) (isiD "int")))) (orT (asB (un (bin (nameE 1) (cE (.int 1)) ixD) (isiD "bool"))) (asB (bin (bin (nameE 1) (cE (.int 1)) ixD) (bin (nameE 1) (cE (.int 0)) ixD) leC))))) (retS (cE (.bl false))) nilS) nilS)))) (retS (eqE (lcE (rng2E (cE (.int 1)) (lenE (nameE 0))) [3] (bindN 3) (asB (bin (bin (bin (nameE 0) (bin (nameE 3) (cE (.int 1)) subD) ixD) (cE (.int 2)) ixD) (bin (bin (nameE 0) (nameE 3) ixD) (cE (.int 2)) ixD) gtC)) (nameE 3)) (mapA nilA lstD)))))
def g_law_are : List D → M D := runD 3 f_law_are
def f_lawrest (dr : List Int) : SF := (seqS (forS (rng1E (cE (.int 7))) (bindN 2) [2, 3, 4, 5, 6, 7, 8, 9, 10, 11, 12, 13, 14, 15, 16] (seqS (parS [3, 4] [(.fz, (callE (consA (nameE 1) nilA) (g_law_entries dr))), (.fz, (callE (consA (nameE 1) nilA) (g_law_entries dr)))]) (seqS (forS (rng1E (cE (.int 4))) (bindN 5) [5, 6, 7] (seqS (parS [6, 7] [(.fz, (bin (callE (consA (nameE 1) (consA (cE (.int 18)) nilA)) (g_law_next dr)) (cE (.int 1)) subD)), (.fz, (bin (callE (consA (nameE 1) (consA (cE (.int 16)) nilA)) (g_law_next dr)) (cE (.int 1)) subD))]) (seqS (ifS (orT (notT (asB (callE (consA (callE (consA (nameE 3) (consA (nameE 6) (consA (nameE 7) nilA))) (g_held)) (consA (callE (consA (nameE 3) (consA (nameE 6) (consA (nameE 7) nilA))) (g_law_held)) nilA)) (g_law_alike 6)))) (notT (asB (callE (consA (callE (consA (nameE 3) (consA (nameE 7) nilA)) (g_row_as_known)) (consA (callE (consA (nameE 3) (consA (nameE 7) nilA)) (g_law_row)) nilA)) (g_law_alike 6))))) (retS (cE (.bl false))) nilS) nilS))) (seqS (setS 8 (mapA nilA lstD)) (seqS (forS (rng1E (lenE (nameE 3))) (bindN 5) [5, 7, 9, 10, 11, 12] (seqS (unpS (bin (nameE 3) (nameE 5) ixD) (bindT ((bindN 9) :: ((bindN 10) :: ((bindN 7) :: ((bindN 11) :: [])))))) (seqS (setS 12 (ifE (asB (bin (nameE 10) (cE .non) isN)) (nameE 7) (bin (nameE 10) (nameE 7) min2D))) (seqS (ifS (asB (neE (lcE (rng2E (nameE 9) (nameE 12)) [6] (bindN 6) (asB (neE (callE (consA (sl (nameE 3) noPart (aPart (nameE 5))) (consA (nameE 6) (consA (nameE 7) nilA))) (g_law_held)) (nameE 11))) (nameE 6)) (mapA nilA lstD))) (seqS (mutS 8 (mapA (consA (nameE 7) (consA (nameE 9) (consA (nameE 12) nilA))) tupD) appD) nilS) nilS) nilS)))) (seqS (ifS (notT (asB (callE (consA (callE (consA (nameE 3) nilA) (g_changed_back)) (consA (un (un (nameE 8) sortD) tupleD) nilA)) (g_law_alike 6)))) (retS (cE (.bl false))) nilS) (seqS (setS 7 (callE (consA (nameE 1) (consA (cE (.int 9)) nilA)) (g_law_next dr))) (seqS (setS 13 (callE (consA (nameE 3) (consA (cE (.int 99)) nilA)) (g_law_row))) (seqS (setS 14 (callE (consA (nameE 13) (consA (nameE 7) nilA)) (g_least_entries))) (seqS (ifS (orT (notT (asB (callE (consA (nameE 14) nilA) (g_law_are)))) (orT (asB (neE (lcE (seqE (nameE 14)) [15] (bindN 15) (asB (neE (bin (nameE 15) (cE (.int 2)) ixD) (nameE 7))) (nameE 15)) (mapA nilA lstD))) (asB (neE (callE (consA (nameE 14) (consA (nameE 7) nilA)) (g_law_row)) (nameE 13))))) (retS (cE (.bl false))) nilS) (seqS (setS 4 (callE (consA (nameE 1) (consA (mapA (consA (nameE 4) (consA (nameE 14) (consA (bin (nameE 3) (sl (nameE 3) noPart (aPart (cE (.int 1)))) addD) (consA (sl (nameE 3) (aPart (cE (.int 1))) noPart) (consA (nameE 3) nilA))))) lstD) nilA)) (g_law_pick dr))) (seqS (ifS (andT (asB (callE (consA (nameE 4) nilA) (g_law_are))) (notT (asB (callE (consA (callE (consA (nameE 3) (consA (nameE 4) nilA)) (g_same_now)) (consA (eqE (callE (consA (nameE 3) (consA (cE (.int 99)) nilA)) (g_law_row)) (callE (consA (nameE 4) (consA (cE (.int 99)) nilA)) (g_law_row))) nilA)) (g_law_alike 6))))) (retS (cE (.bl false))) nilS) (seqS (forS (rng1E (cE (.int 6))) (bindN 5) [5, 11, 15, 16] (seqS (setS 16 (callE (consA (nameE 1) (consA (bin (lenE (nameE 3)) (cE (.int 1)) addD) nilA)) (g_law_next dr))) (seqS (setS 15 (callE (consA (nameE 1) (consA (mapA (consA (mapA (consA (cE (.int 3)) (consA (cE (.int 3)) (consA (cE (.int 0)) (consA (cE (.str "a")) nilA)))) tupD) (consA (mapA (consA (cE (.int 3)) (consA (cE (.int 2)) (consA (cE (.int 0)) (consA (cE (.str "a")) nilA)))) tupD) (consA (mapA (consA (cE (.bl true)) (consA (cE (.int 4)) (consA (cE (.int 0)) (consA (cE (.str "a")) nilA)))) tupD) (consA (mapA (consA (cE (.int 1)) (consA (cE .non) (consA (cE (.int 0)) nilA))) tupD) (consA (mapA (consA (cE (.int 1)) (consA (cE (.int 2)) (consA (cE (.int 0)) (consA (cE (.str "a")) nilA)))) lstD) (consA (mapA (consA (cE (.int 1)) (consA (cE (.int 2)) (consA (cE (.int 99)) (consA (cE (.str "b")) nilA)))) tupD) (consA (mapA (consA (cE (.int 1)) (consA (cE (.str "2")) (consA (cE (.int 0)) (consA (cE (.str "a")) nilA)))) tupD) (consA (mapA (consA (cE (.int 0)) (consA (cE .non) (consA (cE .non) (consA (cE (.str "a")) nilA)))) tupD) nilA)))))))) lstD) nilA)) (g_law_pick dr))) (seqS (setS 11 (callE (consA (nameE 1) (consA (mapA (consA (nameE 3) (consA (un (nameE 3) revD) (consA (un (nameE 3) listD) (consA (bin (bin (sl (nameE 3) noPart (aPart (nameE 16))) (mapA (consA (nameE 15) nilA) tupD) addD) (sl (nameE 3) (aPart (nameE 16)) noPart) addD) (consA (bin (bin (sl (nameE 3) noPart (aPart (nameE 16))) (mapA (consA (nameE 15) nilA) tupD) addD) (sl (nameE 3) (aPart (nameE 16)) noPart) addD) (consA (cE .non) nilA)))))) lstD) nilA)) (g_law_pick dr))) (seqS (ifS (notT (asB (callE (consA (callE (consA (nameE 11) nilA) (g_are_entries)) (consA (callE (consA (nameE 11) nilA) (g_law_are)) nilA)) (g_law_alike 6)))) (retS (cE (.bl false))) nilS) nilS))))) nilS))))))))))))) (retS (cE (.bl true))))
def f_law : SF := (worldS 1 (callE (consA (nameE 0) (consA (cE (.int 600)) nilA)) (g_law_draws)) f_lawrest)
end K28
namespace K28
open PySem PySem.Spec PyProof.Rows L2 L3
def topS (i : Nat) : Stmt := PySem.Challenge.pw_amendwarrant_k28_what_held_and_what_was.main.body.getD i (.Pass ⟨0, 0, 0, 0⟩)
section
variable {P : Program} {w : World} {K : PySem.W.Frag} {mg : Str → Option Value} {base : Heap}
abbrev s_is_number : Stmt := topS 3
theorem sc_is_number : FnScope ["thing"] ["thing"] (defScope s_is_number) := ⟨rfl, rfl, rfl, by decide +kernel, rfl, by decide +kernel, by decide +kernel⟩
theorem b_is_number {W : Option Wd} (z_bool : mg "bool" = none) (z_int : mg "int" = none) (z_isinstance : mg "isinstance" = none) {f : Addr} (cdv : Value) (A : Around) (outer : List Env) (s : Shared) (H : Hp) (E : XK) (hr : Room 0 (A.deeper (envOfC "is_number" (defScope s_is_number) s.heap.objs.size f cdv))) :
    VSs (cxOf CX0 P w K mg base ["thing"] "is_number" (defScope s_is_number) f cdv A outer s H E).nox W [] [] [] (defBody s_is_number) f_is_number := by
  have hN := sc_is_number.nd
  have hu := hu100 hr
  exact (S_one (S_ret (V_and (V_isi (T := "int") (V_name 0 (by decide)) rfl z_isinstance rfl z_int (by decide +kernel)) (V_one (V_not (V_isi (T := "bool") (V_name 0 (by decide)) rfl z_isinstance rfl z_bool (by decide +kernel)))))))
theorem k_is_number {W : Option Wd} (z_bool : mg "bool" = none) (z_int : mg "int" = none) (z_isinstance : mg "isinstance" = none) {f : Addr} {fd : FuncData} (F : Fun K "is_number" "is_number" s_is_number f fd) (hmg : mg "is_number" = some (.ref f)) (hb : Binds K fd ["thing"] []) : Cal P w K mg base "is_number" ["thing"] 1 (spD K W 1 g_is_number) :=
  ⟨f, fd, fn_ok F sc_is_number rfl fun cdv A outer s H E hr => b_is_number z_bool z_int z_isinstance cdv A outer s H E hr, hmg, F.kp, hb⟩
abbrev s_is_tuple_of : Stmt := topS 4
theorem sc_is_tuple_of : FnScope ["thing", "many"] ["thing", "many"] (defScope s_is_tuple_of) := ⟨rfl, rfl, rfl, by decide +kernel, rfl, by decide +kernel, by decide +kernel⟩
theorem b_is_tuple_of {W : Option Wd} (z_isinstance : mg "isinstance" = none) (z_len : mg "len" = none) (z_tuple : mg "tuple" = none) {f : Addr} (cdv : Value) (A : Around) (outer : List Env) (s : Shared) (H : Hp) (E : XK) (hr : Room 0 (A.deeper (envOfC "is_tuple_of" (defScope s_is_tuple_of) s.heap.objs.size f cdv))) :
    VSs (cxOf CX0 P w K mg base ["thing", "many"] "is_tuple_of" (defScope s_is_tuple_of) f cdv A outer s H E).nox W [] [] [] (defBody s_is_tuple_of) f_is_tuple_of := by
  have hN := sc_is_tuple_of.nd
  have hu := hu100 hr
  exact (S_one (S_ret (V_and (V_isi (T := "tuple") (V_name 0 (by decide)) rfl z_isinstance rfl z_tuple (by decide +kernel)) (V_one (V_eq hu (V_len (V_name 0 (by decide)) rfl z_len) (V_name 1 (by decide)))))))
theorem k_is_tuple_of {W : Option Wd} (z_isinstance : mg "isinstance" = none) (z_len : mg "len" = none) (z_tuple : mg "tuple" = none) {f : Addr} {fd : FuncData} (F : Fun K "is_tuple_of" "is_tuple_of" s_is_tuple_of f fd) (hmg : mg "is_tuple_of" = some (.ref f)) (hb : Binds K fd ["thing", "many"] []) : Cal P w K mg base "is_tuple_of" ["thing", "many"] 1 (spD K W 2 g_is_tuple_of) :=
  ⟨f, fd, fn_ok F sc_is_tuple_of rfl fun cdv A outer s H E hr => b_is_tuple_of z_isinstance z_len z_tuple cdv A outer s H E hr, hmg, F.kp, hb⟩
abbrev s_is_name : Stmt := topS 5
theorem sc_is_name : FnScope ["thing", "sign"] ["thing"] (defScope s_is_name) := ⟨rfl, rfl, rfl, by decide +kernel, rfl, by decide +kernel, by decide +kernel⟩
theorem b_is_name {W : Option Wd} (z_all : mg "all" = none) (z_isinstance : mg "isinstance" = none) (z_str : mg "str" = none) (g_DIGITS : ∃ t, mg "DIGITS" = some (.str "0123456789" t)) (g_LETTERS : ∃ t, mg "LETTERS" = some (.str "abcdefghijklmnopqrstuvwxyz" t)) {f : Addr} (cdv : Value) (A : Around) (outer : List Env) (s : Shared) (H : Hp) (E : XK) (hr : Room 0 (A.deeper (envOfC "is_name" (defScope s_is_name) s.heap.objs.size f cdv))) :
    VSs (cxOf CX0 P w K mg base ["thing", "sign"] "is_name" (defScope s_is_name) f cdv A outer s H E).nox W [] [] [] (defBody s_is_name) f_is_name := by
  have hN := sc_is_name.nd
  have hu := hu100 hr
  exact (S_cons (S_if (T_w (W_or (T_not (T_val (V_isi (T := "str") (V_name 0 (by decide)) rfl z_isinstance rfl z_str (by decide +kernel)))) (W_or (T_eq hu (V_name 0 (by decide)) (V_str (by decide +kernel))) (W_or1 (T_nin hu (V_ix hu (V_name 0 (by decide)) V_int) (V_globS rfl g_LETTERS.choose_spec (by decide +kernel))))))) (S_one (S_ret V_bl)) S_nil) (S_one (S_ret (V_all rfl (V_lc rfl hN (I_seq (V_name 0 (by decide))) (own := [("sign", 1)]) (sl := [1]) (blkOk_by (by kernel_rfl)) (by decide) (fun _ _ _ _ _ => (G_name 1 hN rfl (by first | exact .inl rfl | exact .inr rfl) (by decide))) (fun _ _ _ _ _ => TS_nil) (fun _ _ _ _ _ => (V_or (V_in hu (V_name 1 (by decide)) (V_globS rfl g_LETTERS.choose_spec (by decide +kernel))) (V_one (V_in hu (V_name 1 (by decide)) (V_globS rfl g_DIGITS.choose_spec (by decide +kernel))))))) rfl z_all))))
theorem k_is_name {W : Option Wd} (z_all : mg "all" = none) (z_isinstance : mg "isinstance" = none) (z_str : mg "str" = none) (g_DIGITS : ∃ t, mg "DIGITS" = some (.str "0123456789" t)) (g_LETTERS : ∃ t, mg "LETTERS" = some (.str "abcdefghijklmnopqrstuvwxyz" t)) {f : Addr} {fd : FuncData} (F : Fun K "is_name" "is_name" s_is_name f fd) (hmg : mg "is_name" = some (.ref f)) (hb : Binds K fd ["thing"] []) : Cal P w K mg base "is_name" ["thing"] 1 (spD K W 1 g_is_name) :=
  ⟨f, fd, fn_ok F sc_is_name rfl fun cdv A outer s H E hr => b_is_name z_all z_isinstance z_str g_DIGITS g_LETTERS cdv A outer s H E hr, hmg, F.kp, hb⟩
abbrev s_is_entry : Stmt := topS 7
theorem sc_is_entry : FnScope ["thing"] ["thing"] (defScope s_is_entry) := ⟨rfl, rfl, rfl, by decide +kernel, rfl, by decide +kernel, by decide +kernel⟩
theorem b_is_entry {W : Option Wd} (c_is_number : Cal P w K mg base "is_number" ["thing"] 1 (spD K W 1 g_is_number)) (c_is_tuple_of : Cal P w K mg base "is_tuple_of" ["thing", "many"] 1 (spD K W 2 g_is_tuple_of)) (c_is_name : Cal P w K mg base "is_name" ["thing"] 1 (spD K W 1 g_is_name)) {f : Addr} (cdv : Value) (A : Around) (outer : List Env) (s : Shared) (H : Hp) (E : XK) (hr : Room 1 (A.deeper (envOfC "is_entry" (defScope s_is_entry) s.heap.objs.size f cdv))) :
    VSs (cxOf CX0 P w K mg base ["thing"] "is_entry" (defScope s_is_entry) f cdv A outer s H E).nox W [] [] [] (defBody s_is_entry) f_is_entry := by
  have hN := sc_is_entry.nd
  have hu := hu100 hr
  exact (S_cons (S_if (T_w (W_or (T_not (T_val (V_cal c_is_tuple_of hr (by omega) rfl (A_cons (V_name 0 (by decide)) (A_cons V_int A_nil)) rfl (consA_len (consA_len nilA_len))))) (W_or (T_not (T_val (V_cal c_is_number hr (by omega) rfl (A_cons (V_ix hu (V_name 0 (by decide)) V_int) A_nil) rfl (consA_len nilA_len)))) (W_or (T_not (T_val (V_cal c_is_number hr (by omega) rfl (A_cons (V_ix hu (V_name 0 (by decide)) V_int) A_nil) rfl (consA_len nilA_len)))) (W_or1 (T_not (T_val (V_cal c_is_name hr (by omega) rfl (A_cons (V_ix hu (V_name 0 (by decide)) V_int) A_nil) rfl (consA_len nilA_len))))))))) (S_one (S_ret V_bl)) S_nil) (S_one (S_ret (V_or (V_is (V_ix hu (V_name 0 (by decide)) V_int) V_non) (V_one (V_and (V_cal c_is_number hr (by omega) rfl (A_cons (V_ix hu (V_name 0 (by decide)) V_int) A_nil) rfl (consA_len nilA_len)) (V_one (V_lt (V_ix hu (V_name 0 (by decide)) V_int) (V_ix hu (V_name 0 (by decide)) V_int)))))))))
theorem k_is_entry {W : Option Wd} (c_is_number : Cal P w K mg base "is_number" ["thing"] 1 (spD K W 1 g_is_number)) (c_is_tuple_of : Cal P w K mg base "is_tuple_of" ["thing", "many"] 1 (spD K W 2 g_is_tuple_of)) (c_is_name : Cal P w K mg base "is_name" ["thing"] 1 (spD K W 1 g_is_name)) {f : Addr} {fd : FuncData} (F : Fun K "is_entry" "is_entry" s_is_entry f fd) (hmg : mg "is_entry" = some (.ref f)) (hb : Binds K fd ["thing"] []) : Cal P w K mg base "is_entry" ["thing"] 2 (spD K W 1 g_is_entry) :=
  ⟨f, fd, fn_ok F sc_is_entry rfl fun cdv A outer s H E hr => b_is_entry c_is_number c_is_tuple_of c_is_name cdv A outer s H E hr, hmg, F.kp, hb⟩
abbrev s_are_entries : Stmt := topS 8
theorem sc_are_entries : FnScope ["thing", "one", "k"] ["thing"] (defScope s_are_entries) := ⟨rfl, rfl, rfl, by decide +kernel, rfl, by decide +kernel, by decide +kernel⟩
theorem b_are_entries {W : Option Wd} (c_is_entry : Cal P w K mg base "is_entry" ["thing"] 2 (spD K W 1 g_is_entry)) (z_all : mg "all" = none) (z_isinstance : mg "isinstance" = none) (z_len : mg "len" = none) (z_range : mg "range" = none) (z_tuple : mg "tuple" = none) {f : Addr} (cdv : Value) (A : Around) (outer : List Env) (s : Shared) (H : Hp) (E : XK) (hr : Room 2 (A.deeper (envOfC "are_entries" (defScope s_are_entries) s.heap.objs.size f cdv))) :
    VSs (cxOf CX0 P w K mg base ["thing", "one", "k"] "are_entries" (defScope s_are_entries) f cdv A outer s H E).nox W [] [] [] (defBody s_are_entries) f_are_entries := by
  have hN := sc_are_entries.nd
  have hu := hu100 hr
  exact (S_cons (S_if (T_w (W_or (T_not (T_val (V_isi (T := "tuple") (V_name 0 (by decide)) rfl z_isinstance rfl z_tuple (by decide +kernel)))) (W_or1 (T_not (T_val (V_all rfl (V_lc rfl hN (I_seq (V_name 0 (by decide))) (own := [("one", 1)]) (sl := [1]) (blkOk_by (by kernel_rfl)) (by decide) (fun _ _ _ _ _ => (G_name 1 hN rfl (by first | exact .inl rfl | exact .inr rfl) (by decide))) (fun _ _ _ _ _ => TS_nil) (fun _ _ _ _ _ => (V_cal c_is_entry hr (by omega) rfl (A_cons (V_name 1 (by decide)) A_nil) rfl (consA_len nilA_len)))) rfl z_all)))))) (S_one (S_ret V_bl)) S_nil) (S_one (S_ret (V_all rfl (V_lc rfl hN (I_range1 (κ := .fz) (V_sub (V_len (V_name 0 (by decide)) rfl z_len) V_int) rfl z_range) (own := [("k", 2)]) (sl := [2]) (blkOk_by (by kernel_rfl)) (by decide) (fun _ _ _ _ _ => (G_name 2 hN rfl (by first | exact .inl rfl | exact .inr rfl) (by decide))) (fun _ _ _ _ _ => TS_nil) (fun _ _ _ _ _ => (V_le (V_ix hu (V_ix hu (V_name 0 (by decide)) (V_name 2 (by decide))) V_int) (V_ix hu (V_ix hu (V_name 0 (by decide)) (V_add (V_name 2 (by decide)) V_int)) V_int)))) rfl z_all))))
theorem k_are_entries {W : Option Wd} (c_is_entry : Cal P w K mg base "is_entry" ["thing"] 2 (spD K W 1 g_is_entry)) (z_all : mg "all" = none) (z_isinstance : mg "isinstance" = none) (z_len : mg "len" = none) (z_range : mg "range" = none) (z_tuple : mg "tuple" = none) {f : Addr} {fd : FuncData} (F : Fun K "are_entries" "are_entries" s_are_entries f fd) (hmg : mg "are_entries" = some (.ref f)) (hb : Binds K fd ["thing"] []) : Cal P w K mg base "are_entries" ["thing"] 3 (spD K W 1 g_are_entries) :=
  ⟨f, fd, fn_ok F sc_are_entries rfl fun cdv A outer s H E hr => b_are_entries c_is_entry z_all z_isinstance z_len z_range z_tuple cdv A outer s H E hr, hmg, F.kp, hb⟩
abbrev s_has_day : Stmt := topS 9
theorem sc_has_day : FnScope ["entry", "day"] ["entry", "day"] (defScope s_has_day) := ⟨rfl, rfl, rfl, by decide +kernel, rfl, by decide +kernel, by decide +kernel⟩
theorem b_has_day {W : Option Wd}  {f : Addr} (cdv : Value) (A : Around) (outer : List Env) (s : Shared) (H : Hp) (E : XK) (hr : Room 0 (A.deeper (envOfC "has_day" (defScope s_has_day) s.heap.objs.size f cdv))) :
    VSs (cxOf CX0 P w K mg base ["entry", "day"] "has_day" (defScope s_has_day) f cdv A outer s H E).nox W [] [] [] (defBody s_has_day) f_has_day := by
  have hN := sc_has_day.nd
  have hu := hu100 hr
  exact (S_one (S_ret (V_and (V_le (V_ix hu (V_name 0 (by decide)) V_int) (V_name 1 (by decide))) (V_one (V_or (V_is (V_ix hu (V_name 0 (by decide)) V_int) V_non) (V_one (V_lt (V_name 1 (by decide)) (V_ix hu (V_name 0 (by decide)) V_int))))))))
theorem k_has_day {W : Option Wd}  {f : Addr} {fd : FuncData} (F : Fun K "has_day" "has_day" s_has_day f fd) (hmg : mg "has_day" = some (.ref f)) (hb : Binds K fd ["entry", "day"] []) : Cal P w K mg base "has_day" ["entry", "day"] 1 (spD K W 2 g_has_day) :=
  ⟨f, fd, fn_ok F sc_has_day rfl fun cdv A outer s H E hr => b_has_day  cdv A outer s H E hr, hmg, F.kp, hb⟩
abbrev s_held : Stmt := topS 10
theorem sc_held : FnScope ["entries", "day", "known", "able", "entry"] ["entries", "day", "known"] (defScope s_held) := ⟨rfl, rfl, rfl, by decide +kernel, rfl, by decide +kernel, by decide +kernel⟩
theorem b_held {W : Option Wd} (c_has_day : Cal P w K mg base "has_day" ["entry", "day"] 1 (spD K W 2 g_has_day)) {f : Addr} (cdv : Value) (A : Around) (outer : List Env) (s : Shared) (H : Hp) (E : XK) (hr : Room 1 (A.deeper (envOfC "held" (defScope s_held) s.heap.objs.size f cdv))) :
    VSs (cxOf CX0 P w K mg base ["entries", "day", "known", "able", "entry"] "held" (defScope s_held) f cdv A outer s H E).nox W [] [] [] (defBody s_held) f_held := by
  have hN := sc_held.nd
  have hu := hu100 hr
  exact (S_cons (S_setLc (ow' := [3]) rfl hN (i := 3) rfl rfl (I_seq (V_name 0 (by decide))) (own := [("entry", 4)]) (sl := [4]) (blkOk_by (by kernel_rfl)) (by decide) (fun _ _ _ _ _ => (G_name 4 hN rfl (by first | exact .inl rfl | exact .inr rfl) (by decide))) (fun _ _ _ _ _ => (TS_one (T_w (W_and (T_le (V_ix hu (V_name 4 (by decide)) V_int) (V_name 2 (by decide))) (W_and1 (T_val (V_cal c_has_day hr (by omega) rfl (A_cons (V_name 4 (by decide)) (A_cons (V_name 1 (by decide)) A_nil)) rfl (consA_len (consA_len nilA_len))))))))) (fun _ _ _ _ _ => (V_name 4 (by decide))) (sw_true rfl rfl rfl rfl)) (S_one (S_ret (V_if (T_ne hu (V_nameB 3) (V_lst A_nil)) (V_ix hu (V_ix hu (V_nameB 3) (V_neg V_int)) V_int) V_non))))
theorem k_held {W : Option Wd} (c_has_day : Cal P w K mg base "has_day" ["entry", "day"] 1 (spD K W 2 g_has_day)) {f : Addr} {fd : FuncData} (F : Fun K "held" "held" s_held f fd) (hmg : mg "held" = some (.ref f)) (hb : Binds K fd ["entries", "day", "known"] []) : Cal P w K mg base "held" ["entries", "day", "known"] 2 (spD K W 3 g_held) :=
  ⟨f, fd, fn_ok F sc_held rfl fun cdv A outer s H E hr => b_held c_has_day cdv A outer s H E hr, hmg, F.kp, hb⟩
abbrev s_cuts_of : Stmt := topS 11
theorem sc_cuts_of : FnScope ["entries", "known", "found", "begin", "end", "own", "_"] ["entries", "known"] (defScope s_cuts_of) := ⟨rfl, rfl, rfl, by decide +kernel, rfl, by decide +kernel, by decide +kernel⟩
theorem b_cuts_of {W : Option Wd} (z_set : mg "set" = none) (z_sorted : mg "sorted" = none) {f : Addr} (cdv : Value) (A : Around) (outer : List Env) (s : Shared) (H : Hp) (E : XK) (hr : Room 0 (A.deeper (envOfC "cuts_of" (defScope s_cuts_of) s.heap.objs.size f cdv))) :
    VSs (cxOf CX0 P w K mg base ["entries", "known", "found", "begin", "end", "own", "_"] "cuts_of" (defScope s_cuts_of) f cdv A outer s H E).nox W [] [] [] (defBody s_cuts_of) f_cuts_of := by
  have hN := sc_cuts_of.nd
  have hu := hu100 hr
  exact (S_cons (S_setO (ow' := [2]) hN (i := 2) rfl (by first | exact .inl rfl | exact .inr rfl) (V_lst A_nil)) (S_cons (S_for (drop := [3, 4, 5, 6]) PassesOwn.never rfl (I_any (V_name 0 (by decide))) (G_tup rfl (G_cons (sl3 := [3, 4, 5, 6]) (G_name 3 hN rfl (by first | exact .inl rfl | exact .inr rfl) (by decide)) (G_cons (sl3 := [4, 5, 6]) (G_name 4 hN rfl (by first | exact .inl rfl | exact .inr rfl) (by decide)) (G_cons (sl3 := [5, 6]) (G_name 5 hN rfl (by first | exact .inl rfl | exact .inr rfl) (by decide)) (G_cons (sl3 := [6]) (G_name 6 hN rfl (by first | exact .inl rfl | exact .inr rfl) (by decide)) G_nil (by decide) (by decide)) (by decide) (by decide)) (by decide) (by decide)) (by decide) (by decide))) (S_cons (S_if (T_le (V_name 5 (by decide)) (V_name 1 (by decide))) (S_cons (S_extend (pv 2) (by decide) (V_add (V_lst (A_cons (V_name 3 (by decide)) A_nil)) (V_if (T_isnot (V_name 4 (by decide)) V_non) (V_lst (A_cons (V_name 4 (by decide)) A_nil)) (V_lst A_nil)))) S_nil) S_nil) S_nil)) (S_one (S_ret (VE.fz (V_sortSet rfl (V_nameB 2) rfl z_sorted rfl z_set))))))
theorem k_cuts_of {W : Option Wd} (z_set : mg "set" = none) (z_sorted : mg "sorted" = none) {f : Addr} {fd : FuncData} (F : Fun K "cuts_of" "cuts_of" s_cuts_of f fd) (hmg : mg "cuts_of" = some (.ref f)) (hb : Binds K fd ["entries", "known"] []) : Cal P w K mg base "cuts_of" ["entries", "known"] 1 (spD K W 2 g_cuts_of) :=
  ⟨f, fd, fn_ok F sc_cuts_of rfl fun cdv A outer s H E hr => b_cuts_of z_set z_sorted cdv A outer s H E hr, hmg, F.kp, hb⟩
abbrev s_row_as_known : Stmt := topS 12
theorem sc_row_as_known : FnScope ["entries", "known", "cuts", "found", "begin", "end", "thing"] ["entries", "known"] (defScope s_row_as_known) := ⟨rfl, rfl, rfl, by decide +kernel, rfl, by decide +kernel, by decide +kernel⟩
theorem b_row_as_known {W : Option Wd} (c_held : Cal P w K mg base "held" ["entries", "day", "known"] 2 (spD K W 3 g_held)) (c_cuts_of : Cal P w K mg base "cuts_of" ["entries", "known"] 1 (spD K W 2 g_cuts_of)) (z_tuple : mg "tuple" = none) (z_zip : mg "zip" = none) {f : Addr} (cdv : Value) (A : Around) (outer : List Env) (s : Shared) (H : Hp) (E : XK) (hr : Room 2 (A.deeper (envOfC "row_as_known" (defScope s_row_as_known) s.heap.objs.size f cdv))) :
    VSs (cxOf CX0 P w K mg base ["entries", "known", "cuts", "found", "begin", "end", "thing"] "row_as_known" (defScope s_row_as_known) f cdv A outer s H E).nox W [] [] [] (defBody s_row_as_known) f_row_as_known := by
  have hN := sc_row_as_known.nd
  have hu := hu100 hr
  exact (S_cons (S_set (ow' := []) hN (i := 2) rfl (by first | exact .inl rfl | exact .inr rfl) (V_cal c_cuts_of hr (by omega) rfl (A_cons (V_name 0 (by decide)) (A_cons (V_name 1 (by decide)) A_nil)) rfl (consA_len (consA_len nilA_len)))) (S_cons (S_setO (ow' := [3]) hN (i := 3) rfl (by first | exact .inl rfl | exact .inr rfl) (V_lst A_nil)) (S_cons (S_for (drop := [4, 5, 6]) PassesOwn.never rfl (I_zip rfl z_zip (A_cons (V_name 2 (by decide)) (A_cons (V_add (V_sl (V_name 2 (by decide)) (P_some V_int) P_none) (V_lst (A_cons V_non A_nil))) A_nil))) (G_tup rfl (G_cons (sl3 := [4, 5]) (G_name 4 hN rfl (by first | exact .inl rfl | exact .inr rfl) (by decide)) (G_cons (sl3 := [5]) (G_name 5 hN rfl (by first | exact .inl rfl | exact .inr rfl) (by decide)) G_nil (by decide) (by decide)) (by decide) (by decide))) (S_cons (S_set (ow' := [3]) hN (i := 6) rfl (by first | exact .inl rfl | exact .inr rfl) (V_cal c_held hr (by omega) rfl (A_cons (V_name 0 (by decide)) (A_cons (V_name 4 (by decide)) (A_cons (V_name 1 (by decide)) A_nil))) rfl (consA_len (consA_len (consA_len nilA_len))))) (S_cons (S_if (T_isnot (V_name 6 (by decide)) V_non) (S_cons (S_if (T_w (W_and (T_ne hu (V_nameB 3) (V_lst A_nil)) (W_and1 (T_eq hu (V_sl (V_ix hu (V_nameB 3) (V_neg V_int)) (P_some V_int) P_none) (V_tup (A_cons (V_name 4 (by decide)) (A_cons (V_name 6 (by decide)) A_nil))))))) (S_cons (S_put hu (pv 3) (by decide) (V_neg V_int) (V_tup (A_cons (V_ix hu (V_ix hu (V_nameB 3) (V_neg V_int)) V_int) (A_cons (V_name 5 (by decide)) (A_cons (V_name 6 (by decide)) A_nil))))) S_nil) (S_cons (S_append (pv 3) (by decide) (V_tup (A_cons (V_name 4 (by decide)) (A_cons (V_name 5 (by decide)) (A_cons (V_name 6 (by decide)) A_nil))))) S_nil)) S_nil) S_nil) S_nil))) (S_one (S_ret (V_tuple (V_nameB 3) rfl z_tuple))))))
theorem k_row_as_known {W : Option Wd} (c_held : Cal P w K mg base "held" ["entries", "day", "known"] 2 (spD K W 3 g_held)) (c_cuts_of : Cal P w K mg base "cuts_of" ["entries", "known"] 1 (spD K W 2 g_cuts_of)) (z_tuple : mg "tuple" = none) (z_zip : mg "zip" = none) {f : Addr} {fd : FuncData} (F : Fun K "row_as_known" "row_as_known" s_row_as_known f fd) (hmg : mg "row_as_known" = some (.ref f)) (hb : Binds K fd ["entries", "known"] []) : Cal P w K mg base "row_as_known" ["entries", "known"] 3 (spD K W 2 g_row_as_known) :=
  ⟨f, fd, fn_ok F sc_row_as_known rfl fun cdv A outer s H E hr => b_row_as_known c_held c_cuts_of z_tuple z_zip cdv A outer s H E hr, hmg, F.kp, hb⟩
abbrev s_changed_back : Stmt := topS 13
theorem sc_changed_back : FnScope ["entries", "found", "k", "begin", "end", "known", "thing", "last", "days", "day"] ["entries"] (defScope s_changed_back) := ⟨rfl, rfl, rfl, by decide +kernel, rfl, by decide +kernel, by decide +kernel⟩
theorem b_changed_back {W : Option Wd} (c_held : Cal P w K mg base "held" ["entries", "day", "known"] 2 (spD K W 3 g_held)) (c_cuts_of : Cal P w K mg base "cuts_of" ["entries", "known"] 1 (spD K W 2 g_cuts_of)) (z_any : mg "any" = none) (z_len : mg "len" = none) (z_min : mg "min" = none) (z_range : mg "range" = none) (z_set : mg "set" = none) (z_sorted : mg "sorted" = none) (z_tuple : mg "tuple" = none) {f : Addr} (cdv : Value) (A : Around) (outer : List Env) (s : Shared) (H : Hp) (E : XK) (hr : Room 2 (A.deeper (envOfC "changed_back" (defScope s_changed_back) s.heap.objs.size f cdv))) :
    VSs (cxOf CX0 P w K mg base ["entries", "found", "k", "begin", "end", "known", "thing", "last", "days", "day"] "changed_back" (defScope s_changed_back) f cdv A outer s H E).nox W [] [] [] (defBody s_changed_back) f_changed_back := by
  have hN := sc_changed_back.nd
  have hu := hu100 hr
  exact (S_cons (S_setO (ow' := [1]) hN (i := 1) rfl (by first | exact .inl rfl | exact .inr rfl) (V_lst A_nil)) (S_cons (S_for (drop := [2, 3, 4, 5, 6, 7, 8]) PassesOwn.never rfl (I_range1 (κ := .fz) (V_len (V_name 0 (by decide)) rfl z_len) rfl z_range) (G_name 2 hN rfl (by first | exact .inl rfl | exact .inr rfl) (by decide)) (S_cons (S_unp (V_ix hu (V_name 0 (by decide)) (V_name 2 (by decide))) (G_tup rfl (G_cons (sl3 := [3, 4, 5, 6]) (G_name 3 hN rfl (by first | exact .inl rfl | exact .inr rfl) (by decide)) (G_cons (sl3 := [4, 5, 6]) (G_name 4 hN rfl (by first | exact .inl rfl | exact .inr rfl) (by decide)) (G_cons (sl3 := [5, 6]) (G_name 5 hN rfl (by first | exact .inl rfl | exact .inr rfl) (by decide)) (G_cons (sl3 := [6]) (G_name 6 hN rfl (by first | exact .inl rfl | exact .inr rfl) (by decide)) G_nil (by decide) (by decide)) (by decide) (by decide)) (by decide) (by decide)) (by decide) (by decide)))) (S_cons (S_set (ow' := [1]) hN (i := 7) rfl (by first | exact .inl rfl | exact .inr rfl) (V_if (T_is (V_name 4 (by decide)) V_non) (V_name 5 (by decide)) (V_min2 rfl (V_name 4 (by decide)) (V_name 5 (by decide)) rfl z_min))) (S_cons (S_if (T_lt (V_name 3 (by decide)) (V_name 7 (by decide))) (S_cons (S_set (ow' := [1]) hN (i := 8) rfl (by first | exact .inl rfl | exact .inr rfl) (VE.fz (V_sortSet rfl (V_lc rfl hN (I_seq (V_add (V_cal c_cuts_of hr (by omega) rfl (A_cons (V_sl (V_name 0 (by decide)) P_none (P_some (V_name 2 (by decide)))) (A_cons (V_name 5 (by decide)) A_nil)) rfl (consA_len (consA_len nilA_len))) (V_lst (A_cons (V_name 3 (by decide)) A_nil)))) (own := [("day", 9)]) (sl := [9]) (blkOk_by (by kernel_rfl)) (by decide) (fun _ _ _ _ _ => (G_name 9 hN rfl (by first | exact .inl rfl | exact .inr rfl) (by decide))) (fun _ _ _ _ _ => (TS_one (T_chain op_le op_lt g_rC g_rC (V_name 3 (by decide)) (V_name 9 (by decide)) (V_name 7 (by decide))))) (fun _ _ _ _ _ => (V_name 9 (by decide)))) rfl z_sorted rfl z_set))) (S_cons (S_if (T_val (V_any rfl (V_lc rfl hN (I_seq (V_name 8 (by decide))) (own := [("day", 9)]) (sl := [9]) (blkOk_by (by kernel_rfl)) (by decide) (fun _ _ _ _ _ => (G_name 9 hN rfl (by first | exact .inl rfl | exact .inr rfl) (by decide))) (fun _ _ _ _ _ => TS_nil) (fun _ _ _ _ _ => (V_ne hu (V_cal c_held hr (by omega) rfl (A_cons (V_sl (V_name 0 (by decide)) P_none (P_some (V_name 2 (by decide)))) (A_cons (V_name 9 (by decide)) (A_cons (V_name 5 (by decide)) A_nil))) rfl (consA_len (consA_len (consA_len nilA_len)))) (V_name 6 (by decide))))) rfl z_any)) (S_cons (S_append (pv 1) (by decide) (V_tup (A_cons (V_name 5 (by decide)) (A_cons (V_name 3 (by decide)) (A_cons (V_name 7 (by decide)) A_nil))))) S_nil) S_nil) S_nil)) S_nil) S_nil)))) (S_one (S_ret (V_tuple (V_sorted hu (V_nameB 1) rfl z_sorted) rfl z_tuple)))))
theorem k_changed_back {W : Option Wd} (c_held : Cal P w K mg base "held" ["entries", "day", "known"] 2 (spD K W 3 g_held)) (c_cuts_of : Cal P w K mg base "cuts_of" ["entries", "known"] 1 (spD K W 2 g_cuts_of)) (z_any : mg "any" = none) (z_len : mg "len" = none) (z_min : mg "min" = none) (z_range : mg "range" = none) (z_set : mg "set" = none) (z_sorted : mg "sorted" = none) (z_tuple : mg "tuple" = none) {f : Addr} {fd : FuncData} (F : Fun K "changed_back" "changed_back" s_changed_back f fd) (hmg : mg "changed_back" = some (.ref f)) (hb : Binds K fd ["entries"] []) : Cal P w K mg base "changed_back" ["entries"] 3 (spD K W 1 g_changed_back) :=
  ⟨f, fd, fn_ok F sc_changed_back rfl fun cdv A outer s H E hr => b_changed_back c_held c_cuts_of z_any z_len z_min z_range z_set z_sorted z_tuple cdv A outer s H E hr, hmg, F.kp, hb⟩
abbrev s_same_now : Stmt := topS 14
theorem sc_same_now : FnScope ["one", "other", "last", "entry"] ["one", "other"] (defScope s_same_now) := ⟨rfl, rfl, rfl, by decide +kernel, rfl, by decide +kernel, by decide +kernel⟩
theorem b_same_now {W : Option Wd} (c_row_as_known : Cal P w K mg base "row_as_known" ["entries", "known"] 3 (spD K W 2 g_row_as_known)) (z_max : mg "max" = none) {f : Addr} (cdv : Value) (A : Around) (outer : List Env) (s : Shared) (H : Hp) (E : XK) (hr : Room 3 (A.deeper (envOfC "same_now" (defScope s_same_now) s.heap.objs.size f cdv))) :
    VSs (cxOf CX0 P w K mg base ["one", "other", "last", "entry"] "same_now" (defScope s_same_now) f cdv A outer s H E).nox W [] [] [] (defBody s_same_now) f_same_now := by
  have hN := sc_same_now.nd
  have hu := hu100 hr
  exact (S_cons (S_set (ow' := []) hN (i := 2) rfl (by first | exact .inl rfl | exact .inr rfl) (V_max rfl (V_add (V_lst (A_cons V_int A_nil)) (V_lc rfl hN (I_seq (V_add (V_name 0 (by decide)) (V_name 1 (by decide)))) (own := [("entry", 3)]) (sl := [3]) (blkOk_by (by kernel_rfl)) (by decide) (fun _ _ _ _ _ => (G_name 3 hN rfl (by first | exact .inl rfl | exact .inr rfl) (by decide))) (fun _ _ _ _ _ => TS_nil) (fun _ _ _ _ _ => (V_ix hu (V_name 3 (by decide)) V_int)))) rfl z_max)) (S_one (S_ret (V_eq hu (V_cal c_row_as_known hr (by omega) rfl (A_cons (V_name 0 (by decide)) (A_cons (V_name 2 (by decide)) A_nil)) rfl (consA_len (consA_len nilA_len))) (V_cal c_row_as_known hr (by omega) rfl (A_cons (V_name 1 (by decide)) (A_cons (V_name 2 (by decide)) A_nil)) rfl (consA_len (consA_len nilA_len)))))))
theorem k_same_now {W : Option Wd} (c_row_as_known : Cal P w K mg base "row_as_known" ["entries", "known"] 3 (spD K W 2 g_row_as_known)) (z_max : mg "max" = none) {f : Addr} {fd : FuncData} (F : Fun K "same_now" "same_now" s_same_now f fd) (hmg : mg "same_now" = some (.ref f)) (hb : Binds K fd ["one", "other"] []) : Cal P w K mg base "same_now" ["one", "other"] 4 (spD K W 2 g_same_now) :=
  ⟨f, fd, fn_ok F sc_same_now rfl fun cdv A outer s H E hr => b_same_now c_row_as_known z_max cdv A outer s H E hr, hmg, F.kp, hb⟩
abbrev s_least_entries : Stmt := topS 15
theorem sc_least_entries : FnScope ["row", "known", "begin", "end", "thing"] ["row", "known"] (defScope s_least_entries) := ⟨rfl, rfl, rfl, by decide +kernel, rfl, by decide +kernel, by decide +kernel⟩
theorem b_least_entries {W : Option Wd} (z_tuple : mg "tuple" = none) {f : Addr} (cdv : Value) (A : Around) (outer : List Env) (s : Shared) (H : Hp) (E : XK) (hr : Room 0 (A.deeper (envOfC "least_entries" (defScope s_least_entries) s.heap.objs.size f cdv))) :
    VSs (cxOf CX0 P w K mg base ["row", "known", "begin", "end", "thing"] "least_entries" (defScope s_least_entries) f cdv A outer s H E).nox W [] [] [] (defBody s_least_entries) f_least_entries := by
  have hN := sc_least_entries.nd
  have hu := hu100 hr
  exact (S_one (S_ret (V_tuple (V_lc rfl hN (I_seq (V_name 0 (by decide))) (own := [("begin", 2), ("end", 3), ("thing", 4)]) (sl := [2, 3, 4]) (blkOk_by (by kernel_rfl)) (by decide) (fun _ _ _ _ _ => (G_tup rfl (G_cons (sl3 := [2, 3, 4]) (G_name 2 hN rfl (by first | exact .inl rfl | exact .inr rfl) (by decide)) (G_cons (sl3 := [3, 4]) (G_name 3 hN rfl (by first | exact .inl rfl | exact .inr rfl) (by decide)) (G_cons (sl3 := [4]) (G_name 4 hN rfl (by first | exact .inl rfl | exact .inr rfl) (by decide)) G_nil (by decide) (by decide)) (by decide) (by decide)) (by decide) (by decide)))) (fun _ _ _ _ _ => TS_nil) (fun _ _ _ _ _ => (V_tup (A_cons (V_name 2 (by decide)) (A_cons (V_name 3 (by decide)) (A_cons (V_name 1 (by decide)) (A_cons (V_name 4 (by decide)) A_nil))))))) rfl z_tuple)))
theorem k_least_entries {W : Option Wd} (z_tuple : mg "tuple" = none) {f : Addr} {fd : FuncData} (F : Fun K "least_entries" "least_entries" s_least_entries f fd) (hmg : mg "least_entries" = some (.ref f)) (hb : Binds K fd ["row", "known"] []) : Cal P w K mg base "least_entries" ["row", "known"] 1 (spD K W 2 g_least_entries) :=
  ⟨f, fd, fn_ok F sc_least_entries rfl fun cdv A outer s H E hr => b_least_entries z_tuple cdv A outer s H E hr, hmg, F.kp, hb⟩
abbrev s_law_draws : Stmt := topS 17
theorem sc_law_draws : FnScope ["script", "many", "draws", "mixed", "k", "cell", "rest", "turn"] ["script", "many"] (defScope s_law_draws) := ⟨rfl, rfl, rfl, by decide +kernel, rfl, by decide +kernel, by decide +kernel⟩
theorem b_law_draws {W : Option Wd} (z_abs : mg "abs" = none) (z_int : mg "int" = none) (z_len : mg "len" = none) (z_range : mg "range" = none) {f : Addr} (cdv : Value) (A : Around) (outer : List Env) (s : Shared) (H : Hp) (E : XK) (hr : Room 0 (A.deeper (envOfC "_law_draws" (defScope s_law_draws) s.heap.objs.size f cdv))) :
    VSs (cxOf CX0 P w K mg base ["script", "many", "draws", "mixed", "k", "cell", "rest", "turn"] "_law_draws" (defScope s_law_draws) f cdv A outer s H E).nox W [] [] [] (defBody s_law_draws) f_law_draws := by
  have hN := sc_law_draws.nd
  have hu := hu100 hr
  exact (S_cons (S_setO (ow' := [2]) hN (i := 2) rfl (by first | exact .inl rfl | exact .inr rfl) (V_lst A_nil)) (S_cons (S_set (ow' := [2]) hN (i := 3) rfl (by first | exact .inl rfl | exact .inr rfl) V_int) (S_cons (S_for (drop := [4, 5, 6, 7]) PassesOwn.never rfl (I_range1 (κ := .fz) (V_len (V_name 0 (by decide)) rfl z_len) rfl z_range) (G_name 4 hN rfl (by first | exact .inl rfl | exact .inr rfl) (by decide)) (S_cons (S_set (ow' := [2]) hN (i := 5) rfl (by first | exact .inl rfl | exact .inr rfl) (V_abs (V_toInt (V_ix hu (V_name 0 (by decide)) (V_name 4 (by decide))) rfl z_int) rfl z_abs)) (S_cons (S_set (ow' := [2]) hN (i := 3) rfl (by first | exact .inl rfl | exact .inr rfl) (V_mod (V_toInt (V_add (V_add (V_mul (V_name 3 (by decide)) V_int) (V_mod (V_name 5 (by decide)) V_int)) (V_name 4 (by decide))) rfl z_int) V_int)) (S_cons (S_set (ow' := [2]) hN (i := 6) rfl (by first | exact .inl rfl | exact .inr rfl) V_int) (S_cons (S_if (T_ge (V_name 5 (by decide)) (V_pow V_int V_int)) (S_cons (S_set (ow' := [2]) hN (i := 6) rfl (by first | exact .inl rfl | exact .inr rfl) (V_name 5 (by decide))) S_nil) (S_cons (S_append (pv 2) (by decide) (V_mod (V_toInt (V_name 5 (by decide)) rfl z_int) V_int)) (S_cons (S_append (pv 2) (by decide) (V_mod (V_mod (V_toInt (V_add (V_mul (V_name 3 (by decide)) V_int) V_int) rfl z_int) V_int) V_int)) S_nil))) (S_cons (S_for (drop := [7]) PassesOwn.never rfl (I_range1 (κ := .fz) V_int rfl z_range) (G_name 7 hN rfl (by first | exact .inl rfl | exact .inr rfl) (by decide)) (S_cons (S_if (T_gt (V_name 6 (by decide)) V_int) (S_cons (S_append (pv 2) (by decide) (V_mod (V_toInt (V_name 6 (by decide)) rfl z_int) V_int)) (S_cons (S_set (ow' := [2]) hN (i := 6) rfl (by first | exact .inl rfl | exact .inr rfl) (V_div (V_name 6 (by decide)) V_int)) S_nil)) S_nil) S_nil)) S_nil)))))) (S_cons (S_for (drop := [4]) PassesOwn.never rfl (I_range1 (κ := .fz) (V_name 1 (by decide)) rfl z_range) (G_name 4 hN rfl (by first | exact .inl rfl | exact .inr rfl) (by decide)) (S_cons (S_set (ow' := [2]) hN (i := 3) rfl (by first | exact .inl rfl | exact .inr rfl) (V_mod (V_toInt (V_add (V_add (V_mul (V_name 3 (by decide)) V_int) (V_name 4 (by decide))) V_int) rfl z_int) V_int)) (S_cons (S_append (pv 2) (by decide) (V_mod (V_toInt (V_name 3 (by decide)) rfl z_int) V_int)) S_nil))) (S_one (S_ret (V_sl (V_nameB 2) P_none (P_some (V_name 1 (by decide))))))))))
theorem k_law_draws {W : Option Wd} (z_abs : mg "abs" = none) (z_int : mg "int" = none) (z_len : mg "len" = none) (z_range : mg "range" = none) {f : Addr} {fd : FuncData} (F : Fun K "_law_draws" "_law_draws" s_law_draws f fd) (hmg : mg "_law_draws" = some (.ref f)) (hb : Binds K fd ["script", "many"] []) : Cal P w K mg base "_law_draws" ["script", "many"] 1 (spD K W 2 g_law_draws) :=
  ⟨f, fd, fn_ok F sc_law_draws rfl fun cdv A outer s H E hr => b_law_draws z_abs z_int z_len z_range cdv A outer s H E hr, hmg, F.kp, hb⟩
abbrev s_law_next : Stmt := topS 18
theorem sc_law_next : FnScope ["w", "many"] ["w", "many"] (defScope s_law_next) := ⟨rfl, rfl, rfl, by decide +kernel, rfl, by decide +kernel, by decide +kernel⟩
theorem b_law_next {W0 : Wd} (z_int : mg "int" = none) (z_len : mg "len" = none) {f : Addr} (cdv : Value) (A : Around) (outer : List Env) (s : Shared) (H : Hp) (E : XK) (hr : Room 0 (A.deeper (envOfC "_law_next" (defScope s_law_next) s.heap.objs.size f cdv))) :
    VSs (cxOf CX0 P w K mg base ["w", "many"] "_law_next" (defScope s_law_next) f cdv A outer s H E).nox (some W0) [] [] [] (defBody s_law_next) (f_law_next W0.dr) := by
  have hN := sc_law_next.nd
  have hu := hu100 hr
  exact (S_cons (S_tick hu (by decide) (pv 0)) (S_cons (S_if (T_gt (V_wAt hu (by decide) (pv 0)) (V_len (V_wDr hu (by decide) (pv 0)) rfl z_len)) (S_one (S_ret V_int)) S_nil) (S_one (S_ret (V_mod (V_toInt (V_ix hu (V_wDr hu (by decide) (pv 0)) (V_sub (V_wAt hu (by decide) (pv 0)) V_int)) rfl z_int) (V_name 1 (by decide)))))))
theorem k_law_next {W0 : Wd} (z_int : mg "int" = none) (z_len : mg "len" = none) {f : Addr} {fd : FuncData} (F : Fun K "_law_next" "_law_next" s_law_next f fd) (hmg : mg "_law_next" = some (.ref f)) (hb : Binds K fd ["w", "many"] []) : Cal P w K mg base "_law_next" ["w", "many"] 1 (spD K (some W0) 2 (g_law_next W0.dr)) :=
  ⟨f, fd, fn_ok F sc_law_next rfl fun cdv A outer s H E hr => b_law_next z_int z_len cdv A outer s H E hr, hmg, F.kp, hb⟩
abbrev s_law_pick : Stmt := topS 19
theorem sc_law_pick : FnScope ["w", "rows"] ["w", "rows"] (defScope s_law_pick) := ⟨rfl, rfl, rfl, by decide +kernel, rfl, by decide +kernel, by decide +kernel⟩
theorem b_law_pick {W0 : Wd} (c_law_next : Cal P w K mg base "_law_next" ["w", "many"] 1 (spD K (some W0) 2 (g_law_next W0.dr))) (z_len : mg "len" = none) {f : Addr} (cdv : Value) (A : Around) (outer : List Env) (s : Shared) (H : Hp) (E : XK) (hr : Room 1 (A.deeper (envOfC "_law_pick" (defScope s_law_pick) s.heap.objs.size f cdv))) :
    VSs (cxOf CX0 P w K mg base ["w", "rows"] "_law_pick" (defScope s_law_pick) f cdv A outer s H E).nox (some W0) [] [] [] (defBody s_law_pick) (f_law_pick W0.dr) := by
  have hN := sc_law_pick.nd
  have hu := hu100 hr
  exact (S_one (S_ret (V_ix hu (V_name 1 (by decide)) (V_cal c_law_next hr (by omega) rfl (A_cons (V_name 0 (by decide)) (A_cons (V_len (V_name 1 (by decide)) rfl z_len) A_nil)) rfl (consA_len (consA_len nilA_len))))))
theorem k_law_pick {W0 : Wd} (c_law_next : Cal P w K mg base "_law_next" ["w", "many"] 1 (spD K (some W0) 2 (g_law_next W0.dr))) (z_len : mg "len" = none) {f : Addr} {fd : FuncData} (F : Fun K "_law_pick" "_law_pick" s_law_pick f fd) (hmg : mg "_law_pick" = some (.ref f)) (hb : Binds K fd ["w", "rows"] []) : Cal P w K mg base "_law_pick" ["w", "rows"] 2 (spD K (some W0) 2 (g_law_pick W0.dr)) :=
  ⟨f, fd, fn_ok F sc_law_pick rfl fun cdv A outer s H E hr => b_law_pick c_law_next z_len cdv A outer s H E hr, hmg, F.kp, hb⟩
abbrev s_law_alike : Stmt := topS 20
theorem sc_law_alike : FnScope ["given", "due", "k"] ["given", "due"] (defScope s_law_alike) := ⟨rfl, rfl, rfl, by decide +kernel, rfl, by decide +kernel, by decide +kernel⟩
theorem b_law_alike {W : Option Wd} (z_bool : mg "bool" = none) (z_int : mg "int" = none) (z_isinstance : mg "isinstance" = none) (z_len : mg "len" = none) (z_range : mg "range" = none) (z_str : mg "str" = none) (z_tuple : mg "tuple" = none) {k j : Nat} (hj : 0 ≤ k) (self : Cal P w K mg base "_law_alike" ["given", "due"] k (spD K W 2 (g_law_alike j))) {f : Addr} (cdv : Value) (A : Around) (outer : List Env) (s : Shared) (H : Hp) (E : XK) (hr : Room k (A.deeper (envOfC "_law_alike" (defScope s_law_alike) s.heap.objs.size f cdv))) :
    VSs (cxOf CX0 P w K mg base ["given", "due", "k"] "_law_alike" (defScope s_law_alike) f cdv A outer s H E).nox W [] [] [] (defBody s_law_alike) (f_law_alike (g_law_alike j)) := by
  have hN := sc_law_alike.nd
  have hu := hu100 hr
  exact (S_cons (S_if (T_val (V_isi (T := "tuple") (V_name 1 (by decide)) rfl z_isinstance rfl z_tuple (by decide +kernel))) (S_cons (S_if (T_w (W_or (T_not (T_val (V_isi (T := "tuple") (V_name 0 (by decide)) rfl z_isinstance rfl z_tuple (by decide +kernel)))) (W_or1 (T_ne hu (V_len (V_name 0 (by decide)) rfl z_len) (V_len (V_name 1 (by decide)) rfl z_len))))) (S_one (S_ret V_bl)) S_nil) (S_one (S_ret (V_eq hu (V_lc rfl hN (I_range1 (κ := .fz) (V_len (V_name 1 (by decide)) rfl z_len) rfl z_range) (own := [("k", 2)]) (sl := [2]) (blkOk_by (by kernel_rfl)) (by decide) (fun _ _ _ _ _ => (G_name 2 hN rfl (by first | exact .inl rfl | exact .inr rfl) (by decide))) (fun _ _ _ _ _ => (TS_one (T_not (T_val (V_cal self hr (by omega) rfl (A_cons (V_ix hu (V_name 0 (by decide)) (V_name 2 (by decide))) (A_cons (V_ix hu (V_name 1 (by decide)) (V_name 2 (by decide))) A_nil)) rfl (consA_len (consA_len nilA_len))))))) (fun _ _ _ _ _ => (V_name 2 (by decide)))) (V_lst A_nil))))) S_nil) (S_cons (S_if (T_is (V_name 1 (by decide)) V_non) (S_one (S_ret (V_is (V_name 0 (by decide)) V_non))) S_nil) (S_cons (S_if (T_val (V_isi (T := "bool") (V_name 1 (by decide)) rfl z_isinstance rfl z_bool (by decide +kernel))) (S_one (S_ret (V_and (V_isi (T := "bool") (V_name 0 (by decide)) rfl z_isinstance rfl z_bool (by decide +kernel)) (V_one (V_eq hu (V_name 0 (by decide)) (V_name 1 (by decide))))))) S_nil) (S_cons (S_if (T_val (V_isi (T := "int") (V_name 1 (by decide)) rfl z_isinstance rfl z_int (by decide +kernel))) (S_one (S_ret (V_and (V_isi (T := "int") (V_name 0 (by decide)) rfl z_isinstance rfl z_int (by decide +kernel)) (V_and (V_not (V_isi (T := "bool") (V_name 0 (by decide)) rfl z_isinstance rfl z_bool (by decide +kernel))) (V_one (V_eq hu (V_name 0 (by decide)) (V_name 1 (by decide)))))))) S_nil) (S_one (S_ret (V_and (V_isi (T := "str") (V_name 0 (by decide)) rfl z_isinstance rfl z_str (by decide +kernel)) (V_one (V_eq hu (V_name 0 (by decide)) (V_name 1 (by decide)))))))))))
theorem ok_law_alike {W : Option Wd} (z_bool : mg "bool" = none) (z_int : mg "int" = none) (z_isinstance : mg "isinstance" = none) (z_len : mg "len" = none) (z_range : mg "range" = none) (z_str : mg "str" = none) (z_tuple : mg "tuple" = none) {f : Addr} {fd : FuncData} (F : Fun K "_law_alike" "_law_alike" s_law_alike f fd) (hmg : mg "_law_alike" = some (.ref f)) (hb : Binds K fd ["given", "due"] []) : ∀ j, Cal P w K mg base "_law_alike" ["given", "due"] (0 + j) (spD K W 2 (g_law_alike j))
  | 0 => by
    refine ⟨f, fd, ?_, hmg, F.kp, hb⟩
    exact FnOk.fail0 (fun _ _ => rfl)
  | j + 1 => by
    have self := ok_law_alike (W := W) z_bool z_int z_isinstance z_len z_range z_str z_tuple F hmg hb j
    exact ⟨f, fd, fn_ok F sc_law_alike rfl fun cdv A outer s H E hr => b_law_alike z_bool z_int z_isinstance z_len z_range z_str z_tuple (k := 0 + j) (j := j) (by omega) self cdv A outer s H E hr, hmg, F.kp, hb⟩
theorem k_law_alike {W : Option Wd} (z_bool : mg "bool" = none) (z_int : mg "int" = none) (z_isinstance : mg "isinstance" = none) (z_len : mg "len" = none) (z_range : mg "range" = none) (z_str : mg "str" = none) (z_tuple : mg "tuple" = none) {f : Addr} {fd : FuncData} (F : Fun K "_law_alike" "_law_alike" s_law_alike f fd) (hmg : mg "_law_alike" = some (.ref f)) (hb : Binds K fd ["given", "due"] []) : Cal P w K mg base "_law_alike" ["given", "due"] 6 (spD K W 2 (g_law_alike 6)) := ok_law_alike z_bool z_int z_isinstance z_len z_range z_str z_tuple F hmg hb 6
abbrev s_law_entries : Stmt := topS 21
theorem sc_law_entries : FnScope ["w", "found", "known", "k", "begin"] ["w"] (defScope s_law_entries) := ⟨rfl, rfl, rfl, by decide +kernel, rfl, by decide +kernel, by decide +kernel⟩
theorem b_law_entries {W0 : Wd} (c_law_next : Cal P w K mg base "_law_next" ["w", "many"] 1 (spD K (some W0) 2 (g_law_next W0.dr))) (c_law_pick : Cal P w K mg base "_law_pick" ["w", "rows"] 2 (spD K (some W0) 2 (g_law_pick W0.dr))) (z_range : mg "range" = none) (z_tuple : mg "tuple" = none) {f : Addr} (cdv : Value) (A : Around) (outer : List Env) (s : Shared) (H : Hp) (E : XK) (hr : Room 2 (A.deeper (envOfC "_law_entries" (defScope s_law_entries) s.heap.objs.size f cdv))) :
    VSs (cxOf CX0 P w K mg base ["w", "found", "known", "k", "begin"] "_law_entries" (defScope s_law_entries) f cdv A outer s H E).nox (some W0) [] [] [] (defBody s_law_entries) (f_law_entries W0.dr) := by
  have hN := sc_law_entries.nd
  have hu := hu100 hr
  exact (S_cons (S_par2 (ow' := [1]) (i := 1) (j := 2) rfl hN rfl rfl (by decide) rfl rfl (V_lst A_nil) (V_cal c_law_next hr (by omega) rfl (A_cons (V_name 0 (by decide)) (A_cons V_int A_nil)) rfl (consA_len (consA_len nilA_len))) (by decide) (by decide) rfl) (S_cons (S_for (drop := [3, 4]) PassesOwn.never rfl (I_range1 (κ := .fz) (V_cal c_law_next hr (by omega) rfl (A_cons (V_name 0 (by decide)) (A_cons V_int A_nil)) rfl (consA_len (consA_len nilA_len))) rfl z_range) (G_name 3 hN rfl (by first | exact .inl rfl | exact .inr rfl) (by decide)) (S_cons (S_set (ow' := [1]) hN (i := 4) rfl (by first | exact .inl rfl | exact .inr rfl) (V_cal c_law_next hr (by omega) rfl (A_cons (V_name 0 (by decide)) (A_cons V_int A_nil)) rfl (consA_len (consA_len nilA_len)))) (S_cons (S_append (pv 1) (by decide) (V_tup (A_cons (V_name 4 (by decide)) (A_cons (V_if (T_eq hu (V_cal c_law_next hr (by omega) rfl (A_cons (V_name 0 (by decide)) (A_cons V_int A_nil)) rfl (consA_len (consA_len nilA_len))) V_int) V_non (V_add (V_add (V_name 4 (by decide)) V_int) (V_cal c_law_next hr (by omega) rfl (A_cons (V_name 0 (by decide)) (A_cons V_int A_nil)) rfl (consA_len (consA_len nilA_len))))) (A_cons (V_name 2 (by decide)) (A_cons (V_cal c_law_pick hr (by omega) rfl (A_cons (V_name 0 (by decide)) (A_cons (VE.fz (V_lst (A_cons (V_str (by decide +kernel)) (A_cons (V_str (by decide +kernel)) (A_cons (V_str (by decide +kernel)) A_nil))))) A_nil)) rfl (consA_len (consA_len nilA_len))) A_nil)))))) (S_cons (S_aug (i := 2) ip_add hN rfl (by first | exact .inl rfl | exact .inr rfl) (V_cal c_law_next hr (by omega) rfl (A_cons (V_name 0 (by decide)) (A_cons V_int A_nil)) rfl (consA_len (consA_len nilA_len))) (by decide)) S_nil)))) (S_one (S_ret (V_tuple (V_nameB 1) rfl z_tuple)))))
theorem k_law_entries {W0 : Wd} (c_law_next : Cal P w K mg base "_law_next" ["w", "many"] 1 (spD K (some W0) 2 (g_law_next W0.dr))) (c_law_pick : Cal P w K mg base "_law_pick" ["w", "rows"] 2 (spD K (some W0) 2 (g_law_pick W0.dr))) (z_range : mg "range" = none) (z_tuple : mg "tuple" = none) {f : Addr} {fd : FuncData} (F : Fun K "_law_entries" "_law_entries" s_law_entries f fd) (hmg : mg "_law_entries" = some (.ref f)) (hb : Binds K fd ["w"] []) : Cal P w K mg base "_law_entries" ["w"] 3 (spD K (some W0) 1 (g_law_entries W0.dr)) :=
  ⟨f, fd, fn_ok F sc_law_entries rfl fun cdv A outer s H E hr => b_law_entries c_law_next c_law_pick z_range z_tuple cdv A outer s H E hr, hmg, F.kp, hb⟩
abbrev s_law_held : Stmt := topS 22
theorem sc_law_held : FnScope ["entries", "day", "known", "able", "own"] ["entries", "day", "known"] (defScope s_law_held) := ⟨rfl, rfl, rfl, by decide +kernel, rfl, by decide +kernel, by decide +kernel⟩
theorem b_law_held {W : Option Wd} (z_len : mg "len" = none) {f : Addr} (cdv : Value) (A : Around) (outer : List Env) (s : Shared) (H : Hp) (E : XK) (hr : Room 0 (A.deeper (envOfC "_law_held" (defScope s_law_held) s.heap.objs.size f cdv))) :
    VSs (cxOf CX0 P w K mg base ["entries", "day", "known", "able", "own"] "_law_held" (defScope s_law_held) f cdv A outer s H E).nox W [] [] [] (defBody s_law_held) f_law_held := by
  have hN := sc_law_held.nd
  have hu := hu100 hr
  exact (S_cons (S_setLc (ow' := [3]) rfl hN (i := 3) rfl rfl (I_seq (V_name 0 (by decide))) (own := [("own", 4)]) (sl := [4]) (blkOk_by (by kernel_rfl)) (by decide) (fun _ _ _ _ _ => (G_name 4 hN rfl (by first | exact .inl rfl | exact .inr rfl) (by decide))) (fun _ _ _ _ _ => (TS_one (T_w (W_and (T_le (V_ix hu (V_name 4 (by decide)) V_int) (V_name 2 (by decide))) (W_and (T_le (V_ix hu (V_name 4 (by decide)) V_int) (V_name 1 (by decide))) (W_and1 (T_w (W_or (T_is (V_ix hu (V_name 4 (by decide)) V_int) V_non) (W_or1 (T_lt (V_name 1 (by decide)) (V_ix hu (V_name 4 (by decide)) V_int))))))))))) (fun _ _ _ _ _ => (V_ix hu (V_name 4 (by decide)) V_int)) (sw_true rfl rfl rfl rfl)) (S_one (S_ret (V_if (T_ne hu (V_nameB 3) (V_lst A_nil)) (V_ix hu (V_nameB 3) (V_sub (V_len (V_nameB 3) rfl z_len) V_int)) V_non))))
theorem k_law_held {W : Option Wd} (z_len : mg "len" = none) {f : Addr} {fd : FuncData} (F : Fun K "_law_held" "_law_held" s_law_held f fd) (hmg : mg "_law_held" = some (.ref f)) (hb : Binds K fd ["entries", "day", "known"] []) : Cal P w K mg base "_law_held" ["entries", "day", "known"] 1 (spD K W 3 g_law_held) :=
  ⟨f, fd, fn_ok F sc_law_held rfl fun cdv A outer s H E hr => b_law_held z_len cdv A outer s H E hr, hmg, F.kp, hb⟩
abbrev s_law_row : Stmt := topS 23
theorem sc_law_row : FnScope ["entries", "known", "found", "last", "day", "thing"] ["entries", "known"] (defScope s_law_row) := ⟨rfl, rfl, rfl, by decide +kernel, rfl, by decide +kernel, by decide +kernel⟩
theorem b_law_row {W : Option Wd} (c_law_held : Cal P w K mg base "_law_held" ["entries", "day", "known"] 1 (spD K W 3 g_law_held)) (z_len : mg "len" = none) (z_range : mg "range" = none) (z_tuple : mg "tuple" = none) {f : Addr} (cdv : Value) (A : Around) (outer : List Env) (s : Shared) (H : Hp) (E : XK) (hr : Room 1 (A.deeper (envOfC "_law_row" (defScope s_law_row) s.heap.objs.size f cdv))) :
    VSs (cxOf CX0 P w K mg base ["entries", "known", "found", "last", "day", "thing"] "_law_row" (defScope s_law_row) f cdv A outer s H E).nox W [] [] [] (defBody s_law_row) f_law_row := by
  have hN := sc_law_row.nd
  have hu := hu100 hr
  exact (S_cons (S_par2 (ow' := [2]) (i := 2) (j := 3) rfl hN rfl rfl (by decide) rfl rfl (V_lst A_nil) V_non (by decide) (by decide) rfl) (S_cons (S_for (drop := [4, 5]) PassesOwn.never rfl (I_range2 (κ := .fz) (V_neg V_int) V_int rfl z_range) (G_name 4 hN rfl (by first | exact .inl rfl | exact .inr rfl) (by decide)) (S_cons (S_set (ow' := [2]) hN (i := 5) rfl (by first | exact .inl rfl | exact .inr rfl) (V_cal c_law_held hr (by omega) rfl (A_cons (V_name 0 (by decide)) (A_cons (V_name 4 (by decide)) (A_cons (V_name 1 (by decide)) A_nil))) rfl (consA_len (consA_len (consA_len nilA_len))))) (S_cons (S_if (T_w (W_and (T_ne hu (V_name 5 (by decide)) (V_name 3 (by decide))) (W_and1 (T_isnot (V_name 3 (by decide)) V_non)))) (S_cons (S_put hu (pv 2) (by decide) (V_sub (V_len (V_nameB 2) rfl z_len) V_int) (V_tup (A_cons (V_ix hu (V_ix hu (V_nameB 2) (V_sub (V_len (V_nameB 2) rfl z_len) V_int)) V_int) (A_cons (V_name 4 (by decide)) (A_cons (V_name 3 (by decide)) A_nil))))) S_nil) S_nil) (S_cons (S_if (T_w (W_and (T_ne hu (V_name 5 (by decide)) (V_name 3 (by decide))) (W_and1 (T_isnot (V_name 5 (by decide)) V_non)))) (S_cons (S_append (pv 2) (by decide) (V_tup (A_cons (V_name 4 (by decide)) (A_cons V_non (A_cons (V_name 5 (by decide)) A_nil))))) S_nil) S_nil) (S_cons (S_set (ow' := [2]) hN (i := 3) rfl (by first | exact .inl rfl | exact .inr rfl) (V_name 5 (by decide))) S_nil))))) (S_one (S_ret (V_tuple (V_nameB 2) rfl z_tuple)))))
theorem k_law_row {W : Option Wd} (c_law_held : Cal P w K mg base "_law_held" ["entries", "day", "known"] 1 (spD K W 3 g_law_held)) (z_len : mg "len" = none) (z_range : mg "range" = none) (z_tuple : mg "tuple" = none) {f : Addr} {fd : FuncData} (F : Fun K "_law_row" "_law_row" s_law_row f fd) (hmg : mg "_law_row" = some (.ref f)) (hb : Binds K fd ["entries", "known"] []) : Cal P w K mg base "_law_row" ["entries", "known"] 2 (spD K W 2 g_law_row) :=
  ⟨f, fd, fn_ok F sc_law_row rfl fun cdv A outer s H E hr => b_law_row c_law_held z_len z_range z_tuple cdv A outer s H E hr, hmg, F.kp, hb⟩
abbrev s_law_are : Stmt := topS 24
theorem sc_law_are : FnScope ["thing", "one", "part", "k"] ["thing"] (defScope s_law_are) := ⟨rfl, rfl, rfl, by decide +kernel, rfl, by decide +kernel, by decide +kernel⟩
theorem b_law_are {W : Option Wd} (z_bool : mg "bool" = none) (z_int : mg "int" = none) (z_isinstance : mg "isinstance" = none) (z_len : mg "len" = none) (z_range : mg "range" = none) (z_tuple : mg "tuple" = none) {f : Addr} (cdv : Value) (A : Around) (outer : List Env) (s : Shared) (H : Hp) (E : XK) (hr : Room 0 (A.deeper (envOfC "_law_are" (defScope s_law_are) s.heap.objs.size f cdv))) :
    VSs (cxOf CX0 P w K mg base ["thing", "one", "part", "k"] "_law_are" (defScope s_law_are) f cdv A outer s H E).nox W [] [] [] (defBody s_law_are) f_law_are := by
  have hN := sc_law_are.nd
  have hu := hu100 hr
  exact (S_cons (S_if (T_not (T_val (V_isi (T := "tuple") (V_name 0 (by decide)) rfl z_isinstance rfl z_tuple (by decide +kernel)))) (S_one (S_ret V_bl)) S_nil) (S_cons (S_for (drop := [1]) PassesOwn.never rfl (I_any (V_name 0 (by decide))) (G_name 1 hN rfl (by first | exact .inl rfl | exact .inr rfl) (by decide)) (S_cons (S_if (T_w (W_or (T_not (T_val (V_isi (T := "tuple") (V_name 1 (by decide)) rfl z_isinstance rfl z_tuple (by decide +kernel)))) (W_or1 (T_ne hu (V_len (V_name 1 (by decide)) rfl z_len) V_int)))) (S_one (S_ret V_bl)) S_nil) (S_cons (S_if (T_ne hu (V_lc rfl hN (I_seq (V_tup (A_cons (V_ix hu (V_name 1 (by decide)) V_int) (A_cons (V_ix hu (V_name 1 (by decide)) V_int) A_nil)))) (own := [("part", 2)]) (sl := [2]) (blkOk_by (by kernel_rfl)) (by decide) (fun _ _ _ _ _ => (G_name 2 hN rfl (by first | exact .inl rfl | exact .inr rfl) (by decide))) (fun _ _ _ _ _ => (TS_one (T_w (W_or (T_not (T_val (V_isi (T := "int") (V_name 2 (by decide)) rfl z_isinstance rfl z_int (by decide +kernel)))) (W_or1 (T_val (V_isi (T := "bool") (V_name 2 (by decide)) rfl z_isinstance rfl z_bool (by decide +kernel)))))))) (fun _ _ _ _ _ => (V_name 2 (by decide)))) (V_lst A_nil)) (S_one (S_ret V_bl)) S_nil) (S_cons (S_if (T_w (W_and (T_isnot (V_ix hu (V_name 1 (by decide)) V_int) V_non) (W_and1 (T_w (W_or (T_not (T_val (V_isi (T := "int") (V_ix hu (V_name 1 (by decide)) V_int) rfl z_isinstance rfl z_int (by decide +kernel)))) (W_or (T_val (V_isi (T := "bool") (V_ix hu (V_name 1 (by decide)) V_int) rfl z_isinstance rfl z_bool (by decide +kernel))) (W_or1 (T_le (V_ix hu (V_name 1 (by decide)) V_int) (V_ix hu (V_name 1 (by decide)) V_int))))))))) (S_one (S_ret V_bl)) S_nil) S_nil)))) (S_one (S_ret (V_eq hu (V_lc rfl hN (I_range2 (κ := .fz) V_int (V_len (V_name 0 (by decide)) rfl z_len) rfl z_range) (own := [("k", 3)]) (sl := [3]) (blkOk_by (by kernel_rfl)) (by decide) (fun _ _ _ _ _ => (G_name 3 hN rfl (by first | exact .inl rfl | exact .inr rfl) (by decide))) (fun _ _ _ _ _ => (TS_one (T_gt (V_ix hu (V_ix hu (V_name 0 (by decide)) (V_sub (V_name 3 (by decide)) V_int)) V_int) (V_ix hu (V_ix hu (V_name 0 (by decide)) (V_name 3 (by decide))) V_int)))) (fun _ _ _ _ _ => (V_name 3 (by decide)))) (V_lst A_nil))))))
theorem k_law_are {W : Option Wd} (z_bool : mg "bool" = none) (z_int : mg "int" = none) (z_isinstance : mg "isinstance" = none) (z_len : mg "len" = none) (z_range : mg "range" = none) (z_tuple : mg "tuple" = none) {f : Addr} {fd : FuncData} (F : Fun K "_law_are" "_law_are" s_law_are f fd) (hmg : mg "_law_are" = some (.ref f)) (hb : Binds K fd ["thing"] []) : Cal P w K mg base "_law_are" ["thing"] 1 (spD K W 1 g_law_are) :=
  ⟨f, fd, fn_ok F sc_law_are rfl fun cdv A outer s H E hr => b_law_are z_bool z_int z_isinstance z_len z_range z_tuple cdv A outer s H E hr, hmg, F.kp, hb⟩
abbrev s_law : Stmt := topS 25
theorem sc_law : FnScope ["script", "w", "turn", "entries", "other", "k", "day", "known", "back", "begin", "end", "thing", "last", "row", "made", "own", "at"] ["script"] (defScope s_law) := ⟨rfl, rfl, rfl, by decide +kernel, rfl, by decide +kernel, by decide +kernel⟩
theorem b_law (c_are_entries : ∀ W : Option Wd, Cal P w K mg base "are_entries" ["thing"] 3 (spD K W 1 g_are_entries)) (c_held : ∀ W : Option Wd, Cal P w K mg base "held" ["entries", "day", "known"] 2 (spD K W 3 g_held)) (c_row_as_known : ∀ W : Option Wd, Cal P w K mg base "row_as_known" ["entries", "known"] 3 (spD K W 2 g_row_as_known)) (c_changed_back : ∀ W : Option Wd, Cal P w K mg base "changed_back" ["entries"] 3 (spD K W 1 g_changed_back)) (c_same_now : ∀ W : Option Wd, Cal P w K mg base "same_now" ["one", "other"] 4 (spD K W 2 g_same_now)) (c_least_entries : ∀ W : Option Wd, Cal P w K mg base "least_entries" ["row", "known"] 1 (spD K W 2 g_least_entries)) (c_law_draws : ∀ W : Option Wd, Cal P w K mg base "_law_draws" ["script", "many"] 1 (spD K W 2 g_law_draws)) (c_law_next : ∀ W0 : Wd, Cal P w K mg base "_law_next" ["w", "many"] 1 (spD K (some W0) 2 (g_law_next W0.dr))) (c_law_pick : ∀ W0 : Wd, Cal P w K mg base "_law_pick" ["w", "rows"] 2 (spD K (some W0) 2 (g_law_pick W0.dr))) (c_law_alike : ∀ W : Option Wd, Cal P w K mg base "_law_alike" ["given", "due"] 6 (spD K W 2 (g_law_alike 6))) (c_law_entries : ∀ W0 : Wd, Cal P w K mg base "_law_entries" ["w"] 3 (spD K (some W0) 1 (g_law_entries W0.dr))) (c_law_held : ∀ W : Option Wd, Cal P w K mg base "_law_held" ["entries", "day", "known"] 1 (spD K W 3 g_law_held)) (c_law_row : ∀ W : Option Wd, Cal P w K mg base "_law_row" ["entries", "known"] 2 (spD K W 2 g_law_row)) (c_law_are : ∀ W : Option Wd, Cal P w K mg base "_law_are" ["thing"] 1 (spD K W 1 g_law_are)) (z_len : mg "len" = none) (z_list : mg "list" = none) (z_min : mg "min" = none) (z_range : mg "range" = none) (z_sorted : mg "sorted" = none) (z_tuple : mg "tuple" = none) {f : Addr} (cdv : Value) (A : Around) (outer : List Env) (s : Shared) (H : Hp) (E : XK) (hr : Room 6 (A.deeper (envOfC "law" (defScope s_law) s.heap.objs.size f cdv))) :
    VSs (cxOf CX0 P w K mg base ["script", "w", "turn", "entries", "other", "k", "day", "known", "back", "begin", "end", "thing", "last", "row", "made", "own", "at"] "law" (defScope s_law) f cdv A outer s H E).nox none [] [] [] (defBody s_law) f_law := by
  have hN := sc_law.nd
  have hu := hu100 hr
  have b_lawrest : ∀ W0 : Wd, VSs (cxOf CX0 P w K mg base ["script", "w", "turn", "entries", "other", "k", "day", "known", "back", "begin", "end", "thing", "last", "row", "made", "own", "at"] "law" (defScope s_law) f cdv A outer s H E).nox (some W0) [] [] [] ((defBody s_law).drop 1) (f_lawrest W0.dr) := by
    intro W0
    have c_are_entries := c_are_entries (some W0)
    have c_held := c_held (some W0)
    have c_row_as_known := c_row_as_known (some W0)
    have c_changed_back := c_changed_back (some W0)
    have c_same_now := c_same_now (some W0)
    have c_least_entries := c_least_entries (some W0)
    have c_law_draws := c_law_draws (some W0)
    have c_law_next := c_law_next W0
    have c_law_pick := c_law_pick W0
    have c_law_alike := c_law_alike (some W0)
    have c_law_entries := c_law_entries W0
    have c_law_held := c_law_held (some W0)
    have c_law_row := c_law_row (some W0)
    have c_law_are := c_law_are (some W0)
    exact (S_cons (S_for (drop := [2, 3, 4, 5, 6, 7, 8, 9, 10, 11, 12, 13, 14, 15, 16]) PassesOwn.never rfl (I_range1 (κ := .fz) V_int rfl z_range) (G_name 2 hN rfl (by first | exact .inl rfl | exact .inr rfl) (by decide)) (S_cons (S_tupPar (ow' := []) (pg_tup rfl (pgs_cons (pg_name (i := 3) hN rfl (by first | exact .inl rfl | exact .inr rfl)) (pgs_cons (pg_name (i := 4) hN rfl (by first | exact .inl rfl | exact .inr rfl)) pgs_nil))) (KA_cons (V_cal c_law_entries hr (by omega) rfl (A_cons (V_name 1 (by decide)) A_nil) rfl (consA_len nilA_len)) (KA_cons (V_cal c_law_entries hr (by omega) rfl (A_cons (V_name 1 (by decide)) A_nil) rfl (consA_len nilA_len)) KA_nil)) rfl (by simp) rfl (hsz := by show 2 ≤ sizeLine; decide)) (S_cons (S_for (drop := [5, 6, 7]) PassesOwn.never rfl (I_range1 (κ := .fz) V_int rfl z_range) (G_name 5 hN rfl (by first | exact .inl rfl | exact .inr rfl) (by decide)) (S_cons (S_tupPar (ow' := []) (pg_tup rfl (pgs_cons (pg_name (i := 6) hN rfl (by first | exact .inl rfl | exact .inr rfl)) (pgs_cons (pg_name (i := 7) hN rfl (by first | exact .inl rfl | exact .inr rfl)) pgs_nil))) (KA_cons (V_sub (V_cal c_law_next hr (by omega) rfl (A_cons (V_name 1 (by decide)) (A_cons V_int A_nil)) rfl (consA_len (consA_len nilA_len))) V_int) (KA_cons (V_sub (V_cal c_law_next hr (by omega) rfl (A_cons (V_name 1 (by decide)) (A_cons V_int A_nil)) rfl (consA_len (consA_len nilA_len))) V_int) KA_nil)) rfl (by simp) rfl (hsz := by show 2 ≤ sizeLine; decide)) (S_cons (S_if (T_w (W_or (T_not (T_val (V_cal c_law_alike hr (by omega) rfl (A_cons (V_cal c_held hr (by omega) rfl (A_cons (V_name 3 (by decide)) (A_cons (V_name 6 (by decide)) (A_cons (V_name 7 (by decide)) A_nil))) rfl (consA_len (consA_len (consA_len nilA_len)))) (A_cons (V_cal c_law_held hr (by omega) rfl (A_cons (V_name 3 (by decide)) (A_cons (V_name 6 (by decide)) (A_cons (V_name 7 (by decide)) A_nil))) rfl (consA_len (consA_len (consA_len nilA_len)))) A_nil)) rfl (consA_len (consA_len nilA_len))))) (W_or1 (T_not (T_val (V_cal c_law_alike hr (by omega) rfl (A_cons (V_cal c_row_as_known hr (by omega) rfl (A_cons (V_name 3 (by decide)) (A_cons (V_name 7 (by decide)) A_nil)) rfl (consA_len (consA_len nilA_len))) (A_cons (V_cal c_law_row hr (by omega) rfl (A_cons (V_name 3 (by decide)) (A_cons (V_name 7 (by decide)) A_nil)) rfl (consA_len (consA_len nilA_len))) A_nil)) rfl (consA_len (consA_len nilA_len)))))))) (S_one (S_ret V_bl)) S_nil) S_nil))) (S_cons (S_setO (ow' := [8]) hN (i := 8) rfl (by first | exact .inl rfl | exact .inr rfl) (V_lst A_nil)) (S_cons (S_for (drop := [5, 7, 9, 10, 11, 12]) PassesOwn.never rfl (I_range1 (κ := .fz) (V_len (V_name 3 (by decide)) rfl z_len) rfl z_range) (G_name 5 hN rfl (by first | exact .inl rfl | exact .inr rfl) (by decide)) (S_cons (S_unp (V_ix hu (V_name 3 (by decide)) (V_name 5 (by decide))) (G_tup rfl (G_cons (sl3 := [9, 10, 7, 11]) (G_name 9 hN rfl (by first | exact .inl rfl | exact .inr rfl) (by decide)) (G_cons (sl3 := [10, 7, 11]) (G_name 10 hN rfl (by first | exact .inl rfl | exact .inr rfl) (by decide)) (G_cons (sl3 := [7, 11]) (G_name 7 hN rfl (by first | exact .inl rfl | exact .inr rfl) (by decide)) (G_cons (sl3 := [11]) (G_name 11 hN rfl (by first | exact .inl rfl | exact .inr rfl) (by decide)) G_nil (by decide) (by decide)) (by decide) (by decide)) (by decide) (by decide)) (by decide) (by decide)))) (S_cons (S_set (ow' := [8]) hN (i := 12) rfl (by first | exact .inl rfl | exact .inr rfl) (V_if (T_is (V_name 10 (by decide)) V_non) (V_name 7 (by decide)) (V_min2 rfl (V_name 10 (by decide)) (V_name 7 (by decide)) rfl z_min))) (S_cons (S_if (T_ne hu (V_lc rfl hN (I_range2 (κ := .fz) (V_name 9 (by decide)) (V_name 12 (by decide)) rfl z_range) (own := [("day", 6)]) (sl := [6]) (blkOk_by (by kernel_rfl)) (by decide) (fun _ _ _ _ _ => (G_name 6 hN rfl (by first | exact .inl rfl | exact .inr rfl) (by decide))) (fun _ _ _ _ _ => (TS_one (T_ne hu (V_cal c_law_held hr (by omega) rfl (A_cons (V_sl (V_name 3 (by decide)) P_none (P_some (V_name 5 (by decide)))) (A_cons (V_name 6 (by decide)) (A_cons (V_name 7 (by decide)) A_nil))) rfl (consA_len (consA_len (consA_len nilA_len)))) (V_name 11 (by decide))))) (fun _ _ _ _ _ => (V_name 6 (by decide)))) (V_lst A_nil)) (S_cons (S_append (pv 8) (by decide) (V_tup (A_cons (V_name 7 (by decide)) (A_cons (V_name 9 (by decide)) (A_cons (V_name 12 (by decide)) A_nil))))) S_nil) S_nil) S_nil)))) (S_cons (S_if (T_not (T_val (V_cal c_law_alike hr (by omega) rfl (A_cons (V_cal c_changed_back hr (by omega) rfl (A_cons (V_name 3 (by decide)) A_nil) rfl (consA_len nilA_len)) (A_cons (V_tuple (V_sorted hu (V_nameB 8) rfl z_sorted) rfl z_tuple) A_nil)) rfl (consA_len (consA_len nilA_len))))) (S_one (S_ret V_bl)) S_nil) (S_cons (S_set (ow' := [8]) hN (i := 7) rfl (by first | exact .inl rfl | exact .inr rfl) (V_cal c_law_next hr (by omega) rfl (A_cons (V_name 1 (by decide)) (A_cons V_int A_nil)) rfl (consA_len (consA_len nilA_len)))) (S_cons (S_set (ow' := [8]) hN (i := 13) rfl (by first | exact .inl rfl | exact .inr rfl) (V_cal c_law_row hr (by omega) rfl (A_cons (V_name 3 (by decide)) (A_cons V_int A_nil)) rfl (consA_len (consA_len nilA_len)))) (S_cons (S_set (ow' := [8]) hN (i := 14) rfl (by first | exact .inl rfl | exact .inr rfl) (V_cal c_least_entries hr (by omega) rfl (A_cons (V_name 13 (by decide)) (A_cons (V_name 7 (by decide)) A_nil)) rfl (consA_len (consA_len nilA_len)))) (S_cons (S_if (T_w (W_or (T_not (T_val (V_cal c_law_are hr (by omega) rfl (A_cons (V_name 14 (by decide)) A_nil) rfl (consA_len nilA_len)))) (W_or (T_ne hu (V_lc rfl hN (I_seq (V_name 14 (by decide))) (own := [("own", 15)]) (sl := [15]) (blkOk_by (by kernel_rfl)) (by decide) (fun _ _ _ _ _ => (G_name 15 hN rfl (by first | exact .inl rfl | exact .inr rfl) (by decide))) (fun _ _ _ _ _ => (TS_one (T_ne hu (V_ix hu (V_name 15 (by decide)) V_int) (V_name 7 (by decide))))) (fun _ _ _ _ _ => (V_name 15 (by decide)))) (V_lst A_nil)) (W_or1 (T_ne hu (V_cal c_law_row hr (by omega) rfl (A_cons (V_name 14 (by decide)) (A_cons (V_name 7 (by decide)) A_nil)) rfl (consA_len (consA_len nilA_len))) (V_name 13 (by decide))))))) (S_one (S_ret V_bl)) S_nil) (S_cons (S_set (ow' := [8]) hN (i := 4) rfl (by first | exact .inl rfl | exact .inr rfl) (V_cal c_law_pick hr (by omega) rfl (A_cons (V_name 1 (by decide)) (A_cons (VE.fz (V_lst (A_cons (V_name 4 (by decide)) (A_cons (V_name 14 (by decide)) (A_cons (V_add (V_name 3 (by decide)) (V_sl (V_name 3 (by decide)) P_none (P_some V_int))) (A_cons (V_sl (V_name 3 (by decide)) (P_some V_int) P_none) (A_cons (V_name 3 (by decide)) A_nil))))))) A_nil)) rfl (consA_len (consA_len nilA_len)))) (S_cons (S_if (T_w (W_and (T_val (V_cal c_law_are hr (by omega) rfl (A_cons (V_name 4 (by decide)) A_nil) rfl (consA_len nilA_len))) (W_and1 (T_not (T_val (V_cal c_law_alike hr (by omega) rfl (A_cons (V_cal c_same_now hr (by omega) rfl (A_cons (V_name 3 (by decide)) (A_cons (V_name 4 (by decide)) A_nil)) rfl (consA_len (consA_len nilA_len))) (A_cons (V_eq hu (V_cal c_law_row hr (by omega) rfl (A_cons (V_name 3 (by decide)) (A_cons V_int A_nil)) rfl (consA_len (consA_len nilA_len))) (V_cal c_law_row hr (by omega) rfl (A_cons (V_name 4 (by decide)) (A_cons V_int A_nil)) rfl (consA_len (consA_len nilA_len)))) A_nil)) rfl (consA_len (consA_len nilA_len)))))))) (S_one (S_ret V_bl)) S_nil) (S_cons (S_for (drop := [5, 11, 15, 16]) PassesOwn.never rfl (I_range1 (κ := .fz) V_int rfl z_range) (G_name 5 hN rfl (by first | exact .inl rfl | exact .inr rfl) (by decide)) (S_cons (S_set (ow' := [8]) hN (i := 16) rfl (by first | exact .inl rfl | exact .inr rfl) (V_cal c_law_next hr (by omega) rfl (A_cons (V_name 1 (by decide)) (A_cons (V_add (V_len (V_name 3 (by decide)) rfl z_len) V_int) A_nil)) rfl (consA_len (consA_len nilA_len)))) (S_cons (S_set (ow' := [8]) hN (i := 15) rfl (by first | exact .inl rfl | exact .inr rfl) (V_cal c_law_pick hr (by omega) rfl (A_cons (V_name 1 (by decide)) (A_cons (VE.fz (V_lst (A_cons (V_tup (A_cons V_int (A_cons V_int (A_cons V_int (A_cons (V_str (by decide +kernel)) A_nil))))) (A_cons (V_tup (A_cons V_int (A_cons V_int (A_cons V_int (A_cons (V_str (by decide +kernel)) A_nil))))) (A_cons (V_tup (A_cons V_bl (A_cons V_int (A_cons V_int (A_cons (V_str (by decide +kernel)) A_nil))))) (A_cons (V_tup (A_cons V_int (A_cons V_non (A_cons V_int A_nil)))) (A_cons (VE.fz (V_lst (A_cons V_int (A_cons V_int (A_cons V_int (A_cons (V_str (by decide +kernel)) A_nil)))))) (A_cons (V_tup (A_cons V_int (A_cons V_int (A_cons V_int (A_cons (V_str (by decide +kernel)) A_nil))))) (A_cons (V_tup (A_cons V_int (A_cons (V_str (by decide +kernel)) (A_cons V_int (A_cons (V_str (by decide +kernel)) A_nil))))) (A_cons (V_tup (A_cons V_int (A_cons V_non (A_cons V_non (A_cons (V_str (by decide +kernel)) A_nil))))) A_nil)))))))))) A_nil)) rfl (consA_len (consA_len nilA_len)))) (S_cons (S_set (ow' := [8]) hN (i := 11) rfl (by first | exact .inl rfl | exact .inr rfl) (V_cal c_law_pick hr (by omega) rfl (A_cons (V_name 1 (by decide)) (A_cons (VE.fz (V_lst (A_cons (V_name 3 (by decide)) (A_cons (V_rev (V_name 3 (by decide))) (A_cons (VE.fz (V_list (V_name 3 (by decide)) rfl z_list)) (A_cons (V_add (V_add (V_sl (V_name 3 (by decide)) P_none (P_some (V_name 16 (by decide)))) (V_tup (A_cons (V_name 15 (by decide)) A_nil))) (V_sl (V_name 3 (by decide)) (P_some (V_name 16 (by decide))) P_none)) (A_cons (V_add (V_add (V_sl (V_name 3 (by decide)) P_none (P_some (V_name 16 (by decide)))) (V_tup (A_cons (V_name 15 (by decide)) A_nil))) (V_sl (V_name 3 (by decide)) (P_some (V_name 16 (by decide))) P_none)) (A_cons V_non A_nil)))))))) A_nil)) rfl (consA_len (consA_len nilA_len)))) (S_cons (S_if (T_not (T_val (V_cal c_law_alike hr (by omega) rfl (A_cons (V_cal c_are_entries hr (by omega) rfl (A_cons (V_name 11 (by decide)) A_nil) rfl (consA_len nilA_len)) (A_cons (V_cal c_law_are hr (by omega) rfl (A_cons (V_name 11 (by decide)) A_nil) rfl (consA_len nilA_len)) A_nil)) rfl (consA_len (consA_len nilA_len))))) (S_one (S_ret V_bl)) S_nil) S_nil))))) (S_freeze (ow1 := []) 8 S_nil)))))))))))))) (S_one (S_ret V_bl)))
  have c_are_entries := c_are_entries none
  have c_held := c_held none
  have c_row_as_known := c_row_as_known none
  have c_changed_back := c_changed_back none
  have c_same_now := c_same_now none
  have c_least_entries := c_least_entries none
  have c_law_draws := c_law_draws none
  have c_law_alike := c_law_alike none
  have c_law_held := c_law_held none
  have c_law_row := c_law_row none
  have c_law_are := c_law_are none
  exact (S_world hN (i := 1) rfl (by first | exact .inl rfl | exact .inr rfl) (V_cal c_law_draws hr (by omega) rfl (A_cons (V_name 0 (by decide)) (A_cons V_int A_nil)) rfl (consA_len (consA_len nilA_len))) (fun W0 => b_lawrest W0))
theorem ok_law (c_are_entries : ∀ W : Option Wd, Cal P w K mg base "are_entries" ["thing"] 3 (spD K W 1 g_are_entries)) (c_held : ∀ W : Option Wd, Cal P w K mg base "held" ["entries", "day", "known"] 2 (spD K W 3 g_held)) (c_row_as_known : ∀ W : Option Wd, Cal P w K mg base "row_as_known" ["entries", "known"] 3 (spD K W 2 g_row_as_known)) (c_changed_back : ∀ W : Option Wd, Cal P w K mg base "changed_back" ["entries"] 3 (spD K W 1 g_changed_back)) (c_same_now : ∀ W : Option Wd, Cal P w K mg base "same_now" ["one", "other"] 4 (spD K W 2 g_same_now)) (c_least_entries : ∀ W : Option Wd, Cal P w K mg base "least_entries" ["row", "known"] 1 (spD K W 2 g_least_entries)) (c_law_draws : ∀ W : Option Wd, Cal P w K mg base "_law_draws" ["script", "many"] 1 (spD K W 2 g_law_draws)) (c_law_next : ∀ W0 : Wd, Cal P w K mg base "_law_next" ["w", "many"] 1 (spD K (some W0) 2 (g_law_next W0.dr))) (c_law_pick : ∀ W0 : Wd, Cal P w K mg base "_law_pick" ["w", "rows"] 2 (spD K (some W0) 2 (g_law_pick W0.dr))) (c_law_alike : ∀ W : Option Wd, Cal P w K mg base "_law_alike" ["given", "due"] 6 (spD K W 2 (g_law_alike 6))) (c_law_entries : ∀ W0 : Wd, Cal P w K mg base "_law_entries" ["w"] 3 (spD K (some W0) 1 (g_law_entries W0.dr))) (c_law_held : ∀ W : Option Wd, Cal P w K mg base "_law_held" ["entries", "day", "known"] 1 (spD K W 3 g_law_held)) (c_law_row : ∀ W : Option Wd, Cal P w K mg base "_law_row" ["entries", "known"] 2 (spD K W 2 g_law_row)) (c_law_are : ∀ W : Option Wd, Cal P w K mg base "_law_are" ["thing"] 1 (spD K W 1 g_law_are)) (z_len : mg "len" = none) (z_list : mg "list" = none) (z_min : mg "min" = none) (z_range : mg "range" = none) (z_sorted : mg "sorted" = none) (z_tuple : mg "tuple" = none) {f : Addr} {fd : FuncData} (F : Fun K "law" "law" s_law f fd) (hm : ∀ ns : List Int, ns.length ≤ 63 → ∃ n', f_law (some (.rol (ns.map .int)) :: List.replicate 16 none) 0 = some (.rt (.bl true), n')) : FnOk P w K mg base CX0 7 f fd ["script"] (spLaw K) :=
  fn_law F sc_law (fun cdv A outer s H E hr => b_law c_are_entries c_held c_row_as_known c_changed_back c_same_now c_least_entries c_law_draws c_law_next c_law_pick c_law_alike c_law_entries c_law_held c_law_row c_law_are z_len z_list z_min z_range z_sorted z_tuple  cdv A outer s H E hr) hm
end
end K28
namespace L3
open PySem PySem.Spec PyProof.Rows L2

theorem nr {α : Sort u} {a b : α} (h : a = b) : a = b := h
/-! ### how the combinators run -/
section
variable {α β : Type} {ρ : Ro} {n i : Nat} {fa fb fc f : Ro → M D} {t u : Ro → M Bool} {F G : SF} {g : D → D → Option D} {h : D → Option D} {fs : Ro → M (List D)}
@[simp] theorem r_bind (m : M α) (k : α → M β) : (m >>= k) n = (m n).bind fun p => k p.1 p.2 := nr rfl
@[simp] theorem r_pure (a : α) : (pure a : M α) n = some (a, n) := nr rfl
@[simp] theorem r_lo (o : Option α) : lo o n = o.map fun a => (a, n) := nr rfl
@[simp] theorem r_fail : (fail : M α) n = none := nr rfl
def at' : Ro → Nat → Option D
  | [], _ => none
  | x :: _, 0 => x
  | _ :: r, i + 1 => at' r i
theorem at_get : ∀ (ρ : Ro) (i : Nat), at' ρ i = ρ[i]?.join
  | [], _ => rfl
  | x :: _, 0 => by cases x <;> rfl
  | _ :: r, i + 1 => at_get r i
@[simp] theorem at_0 {x : Option D} {r : Ro} : at' (x :: r) 0 = x := nr rfl
@[simp] theorem at_s {x : Option D} {r : Ro} : at' (x :: r) (i + 1) = at' r i := nr rfl
@[simp] theorem ob_some {α β : Type} {a : α} {f : α → Option β} : (some a).bind f = f a := nr rfl
@[simp] theorem ob_none {α β : Type} {f : α → Option β} : (none : Option α).bind f = none := nr rfl
@[simp] theorem om_some {α β : Type} {a : α} {f : α → β} : (some a).map f = some (f a) := nr rfl
@[simp] theorem om_none {α β : Type} {f : α → β} : (none : Option α).map f = none := nr rfl
theorem i_t {α : Type} {a b : α} : (if True then a else b) = a := nr (if_pos trivial)
theorem i_f {α : Type} {a b : α} : (if False then a else b) = b := nr (if_neg not_false)
theorem i_tt {α : Type} {a b : α} : (if true = true then a else b) = a := nr rfl
theorem i_ff {α : Type} {a b : α} : (if false = true then a else b) = b := nr rfl
@[simp] theorem r_name : nameE i ρ n = (at' ρ i).map fun d => (d, n) := by
  rw [at_get]
  unfold nameE
  rcases h : ρ[i]? with _ | _ | x <;> rfl
@[simp] theorem r_c {d : D} : cE d ρ n = some (d, n) := nr rfl
@[simp] theorem r_bin : bin fa fb g ρ n = (fa ρ n).bind fun p => (fb ρ p.2).bind fun q => (g p.1 q.1).map fun z => (z, q.2) := nr rfl
@[simp] theorem r_un : un fa h ρ n = (fa ρ n).bind fun p => (h p.1).map fun z => (z, p.2) := nr rfl
def asB' : D × Nat → Option (Bool × Nat)
  | (.bl b, n) => some (b, n)
  | _ => none
@[simp] theorem r_asB : asB fa ρ n = (fa ρ n).bind asB' := by
  show (fa ρ n).bind _ = _
  congr 1
  funext p
  obtain ⟨d, m⟩ := p
  cases d <;> rfl
@[simp] theorem asB'_bl {b : Bool} : asB' (.bl b, n) = some (b, n) := nr rfl
theorem ite_run {c : Prop} [Decidable c] (x y : M α) : (if c then x else y) n = if c then x n else y n := by split <;> rfl
@[simp] theorem r_notT : notT t ρ n = (t ρ n).bind fun p => some (!p.1, p.2) := nr rfl
@[simp] theorem r_andT : andT t u ρ n = (t ρ n).bind fun p => if p.1 = true then u ρ p.2 else some (false, p.2) := by
  show (t ρ n).bind _ = _
  congr 1; funext p; obtain ⟨b, m⟩ := p; cases b <;> rfl
@[simp] theorem r_orT : orT t u ρ n = (t ρ n).bind fun p => if p.1 = true then some (true, p.2) else u ρ p.2 := by
  show (t ρ n).bind _ = _
  congr 1; funext p; obtain ⟨b, m⟩ := p; cases b <;> rfl
@[simp] theorem r_andE : andE fa fb ρ n = (asB fa ρ n).bind fun p => if p.1 = true then fb ρ p.2 else some (.bl false, p.2) := by
  show (asB fa ρ n).bind _ = _
  congr 1; funext p; obtain ⟨b, m⟩ := p; cases b <;> rfl
@[simp] theorem r_orE : orE fa fb ρ n = (asB fa ρ n).bind fun p => if p.1 = true then some (.bl true, p.2) else fb ρ p.2 := by
  show (asB fa ρ n).bind _ = _
  congr 1; funext p; obtain ⟨b, m⟩ := p; cases b <;> rfl
@[simp] theorem r_notE : notE fa ρ n = (asB fa ρ n).bind fun p => some (.bl (!p.1), p.2) := nr rfl
@[simp] theorem r_ifE : ifE t fa fb ρ n = (t ρ n).bind fun p => if p.1 = true then fa ρ p.2 else fb ρ p.2 := by
  show (t ρ n).bind _ = _
  congr 1; funext p; obtain ⟨b, m⟩ := p; cases b <;> rfl
@[simp] theorem r_nilA : nilA ρ n = some ([], n) := nr rfl
@[simp] theorem r_consA : consA fa fs ρ n = (fa ρ n).bind fun p => (fs ρ p.2).bind fun q => some (p.1 :: q.1, q.2) := nr rfl
@[simp] theorem r_mapA {g : List D → Option D} : mapA fs g ρ n = (fs ρ n).bind fun p => (g p.1).map fun z => (z, p.2) := nr rfl
@[simp] theorem r_call {g : List D → M D} : callE fs g ρ n = (fs ρ n).bind fun p => g p.1 p.2 := nr rfl
def outD : Out × Nat → Option (D × Nat)
  | (.rt d, n) => some (d, n)
  | (.nx _, n) => some (.non, n)
  | _ => none
@[simp] theorem r_runD {nl : Nat} {ds : List D} : runD nl F ds n = (F (ds.map some ++ List.replicate nl none) n).bind outD := by
  show (F _ n).bind _ = _
  congr 1; funext p
  obtain ⟨o, m⟩ := p
  cases o <;> rfl
@[simp] theorem outD_rt {d : D} : outD (.rt d, n) = some (d, n) := nr rfl
@[simp] theorem outD_nx : outD (.nx ρ, n) = some (.non, n) := nr rfl
def seq' (G : SF) : Out × Nat → Option (Out × Nat)
  | (.nx ρ, n) => G ρ n
  | p => some p
@[simp] theorem r_seq : seqS F G ρ n = (F ρ n).bind (seq' G) := by
  show (F ρ n).bind _ = _
  congr 1; funext p
  obtain ⟨o, m⟩ := p
  cases o <;> rfl
@[simp] theorem seq'_nx : seq' G (.nx ρ, n) = G ρ n := nr rfl
@[simp] theorem seq'_rt {d : D} : seq' G (.rt d, n) = some (.rt d, n) := nr rfl
@[simp] theorem seq'_bk : seq' G (.bk ρ, n) = some (.bk ρ, n) := nr rfl
@[simp] theorem seq'_ct : seq' G (.ct ρ, n) = some (.ct ρ, n) := nr rfl
@[simp] theorem r_nil : nilS ρ n = some (.nx ρ, n) := nr rfl
@[simp] theorem r_set : setS i fa ρ n = (fa ρ n).bind fun p => some (.nx (ρ.set i (some p.1)), p.2) := nr rfl
@[simp] theorem r_ret : retS fa ρ n = (fa ρ n).bind fun p => some (.rt p.1, p.2) := nr rfl
@[simp] theorem r_if : ifS t F G ρ n = (t ρ n).bind fun p => if p.1 = true then F ρ p.2 else G ρ p.2 := by
  show (t ρ n).bind _ = _
  congr 1; funext p; obtain ⟨b, m⟩ := p; cases b <;> rfl
@[simp] theorem r_mut {i : Nat} : mutS i fa g ρ n = (bin (nameE i) fa g ρ n).bind fun p => some (.nx (ρ.set i (some p.1)), p.2) := nr rfl
@[simp] theorem r_aug {i : Nat} : augS i fa g ρ n = (bin (nameE i) fa g ρ n).bind fun p => some (.nx (ρ.set i (some p.1)), p.2) := nr rfl
@[simp] theorem r_put {i : Nat} : putS i fb fa ρ n = (fa ρ n).bind fun v => (nameE i ρ v.2).bind fun x => (fb ρ x.2).bind fun y => (setD x.1 y.1 v.1).bind fun d => some (.nx (ρ.set i (some d)), y.2) := by
  show (fa ρ n).bind _ = _
  congr 1; funext v
  show (nameE i ρ v.2).bind _ = _
  congr 1; funext x
  show (fb ρ x.2).bind _ = _
  congr 1; funext y
  show ((setD x.1 y.1 v.1).map _).bind _ = _
  cases setD x.1 y.1 v.1 <;> rfl
@[simp] theorem r_unp {b : BF} : unpS fa b ρ n = (fa ρ n).bind fun p => (b p.1 ρ).bind fun ρ' => some (.nx ρ', p.2) := by
  show (fa ρ n).bind _ = _
  congr 1; funext p
  show ((b p.1 ρ).map _).bind _ = _
  cases b p.1 ρ <;> rfl
@[simp] theorem r_par {is : List Nat} {fs : KF} : parS is fs ρ n = (evalK fs ρ n).bind fun p => some (.nx (setLR ρ is p.1), p.2) := nr rfl
@[simp] theorem r_evalK0 : evalK [] ρ n = some ([], n) := nr rfl
@[simp] theorem r_evalK {κ : Kd} {fs : KF} : evalK ((κ, fa) :: fs) ρ n = (fa ρ n).bind fun p => (evalK fs ρ p.2).bind fun q => some (p.1 :: q.1, q.2) := nr rfl
@[simp] theorem r_for {src : Ro → M (List D)} {b : BF} {drop : List Nat} : forS src b drop F ρ n = (src ρ n).bind fun p => loopS b drop F p.1 (wipR ρ drop) p.2 := nr rfl
@[simp] theorem r_lc {src : Ro → M (List D)} {vs : List Nat} {b : BF} : lcE src vs b t fa ρ n = (src ρ n).bind fun p => (lcGo b t fa (wipR ρ vs) p.1 p.2).bind fun q => some (.lst q.1, q.2) := nr rfl
@[simp] theorem r_iter : iterE fa ρ n = (fa ρ n).bind fun p => (iterD p.1).map fun z => (z, p.2) := nr rfl
@[simp] theorem r_seqE : seqE fa ρ n = (fa ρ n).bind fun p => (seqD p.1).map fun z => (z, p.2) := nr rfl
@[simp] theorem r_zip : zipE fs ρ n = (fs ρ n).bind fun p => (zipD p.1).map fun z => (z, p.2) := nr rfl
@[simp] theorem r_yes : yesT ρ n = some (true, n) := nr rfl
@[simp] theorem r_noPart : noPart ρ n = some (none, n) := nr rfl
def part' : D × Nat → Option (Option Int × Nat)
  | (.int i, n) => some (some i, n)
  | _ => none
@[simp] theorem r_aPart : aPart fa ρ n = (fa ρ n).bind part' := by
  show (fa ρ n).bind _ = _
  congr 1; funext p
  obtain ⟨d, m⟩ := p
  cases d <;> rfl
@[simp] theorem part'_int {i : Int} : part' (.int i, n) = some (some i, n) := nr rfl
@[simp] theorem r_sl {l u : PoF} : sl fa l u ρ n = (fa ρ n).bind fun p => (l ρ p.2).bind fun q => (u ρ q.2).bind fun r => (slD p.1 q.1 r.1).map fun z => (z, r.2) := nr rfl
def chain' (fc : Ro → M D) (ρ : Ro) (h : D → Option D) : D → Nat → Option (D × Nat)
  | .bl true, n => (fc ρ n).bind fun p => (h p.1).map fun z => (z, p.2)
  | .bl false, n => some (.bl false, n)
  | _, _ => none
@[simp] theorem r_chain {g h : D → D → Option D} : chainE fa fb fc g h ρ n = (fa ρ n).bind fun p => (fb ρ p.2).bind fun q => (g p.1 q.1).bind fun z => chain' fc ρ (h q.1) z q.2 := by
  show (fa ρ n).bind _ = _
  congr 1; funext p
  show (fb ρ p.2).bind _ = _
  congr 1; funext q
  show ((g p.1 q.1).map _).bind _ = _
  cases g p.1 q.1 with
  | none => rfl
  | some z =>
    show _ = chain' fc ρ (h q.1) z q.2
    cases z with
    | bl b => cases b <;> rfl
    | _ => rfl
@[simp] theorem chain'_t {h : D → Option D} : chain' fc ρ h (.bl true) n = (fc ρ n).bind fun p => (h p.1).map fun z => (z, p.2) := nr rfl
@[simp] theorem chain'_f {h : D → Option D} : chain' fc ρ h (.bl false) n = some (.bl false, n) := nr rfl
@[simp] theorem r_chainB {b : Bool} {h : D → Option D} : chain' fc ρ h (.bl b) n = if b = true then (fc ρ n).bind fun p => (h p.1).map fun z => (z, p.2) else some (.bl false, n) := by cases b <;> rfl
end
/-! ### comprehensions and loops over typed lists -/
section
variable {α β : Type} {ρ : Ro} {n : Nat} {b : BF} {t : Ro → M Bool} {el : Ro → M D} {F : SF}
theorem lcGo_map (enc : α → D) (r : α → Ro) (p : α → Bool) (g : α → D) : ∀ l : List α, (∀ a ∈ l, b (enc a) ρ = some (r a)) → (∀ a ∈ l, t (r a) n = some (p a, n)) → (∀ a ∈ l, p a = true → el (r a) n = some (g a, n)) →
    lcGo b t el ρ (l.map enc) n = some ((l.filter p).map g, n)
  | [], _, _, _ => rfl
  | a :: l, h1, h2, h3 => by
    have ih := lcGo_map enc r p g l (fun x hx => h1 x (List.mem_cons_of_mem _ hx)) (fun x hx => h2 x (List.mem_cons_of_mem _ hx)) (fun x hx => h3 x (List.mem_cons_of_mem _ hx))
    have e1 := h1 a List.mem_cons_self
    have e2 := h2 a List.mem_cons_self
    have e3 := h3 a List.mem_cons_self
    show ((b (enc a) ρ).map fun a => (a, n)).bind _ = _
    rw [e1]
    show (t (r a) n).bind _ = _
    rw [e2]
    cases hp : p a with
    | false =>
      rw [List.filter_cons_of_neg (by simp [hp])]
      exact ih
    | true =>
      rw [List.filter_cons_of_pos (by simp [hp])]
      show (el (r a) n).bind _ = _
      rw [e3 hp]
      show (lcGo b t el ρ (l.map enc) n).bind _ = _
      rw [ih]
      rfl
theorem loopS_fold {drop : List Nat} (enc : α → D) (R : β → Ro) (step : β → α → β) (I : β → Prop) : ∀ (l : List α) (s : β), I s → (∀ a ∈ l, ∀ s, I s → I (step s a) ∧ ∃ ρ1 ρ2, b (enc a) (R s) = some ρ1 ∧ (F ρ1 n = some (.nx ρ2, n) ∨ F ρ1 n = some (.ct ρ2, n)) ∧ wipR ρ2 drop = R (step s a)) →
    loopS b drop F (l.map enc) (R s) n = some (.nx (R (l.foldl step s)), n)
  | [], s, _, _ => rfl
  | a :: l, s, hI, h => by
    obtain ⟨i1, ρ1, ρ2, e1, e2, e3⟩ := h a List.mem_cons_self s hI
    have ih := loopS_fold enc R step I l (step s a) i1 fun x hx => h x (List.mem_cons_of_mem _ hx)
    show ((b (enc a) (R s)).map fun a => (a, n)).bind _ = _
    rw [e1]
    show (F ρ1 n).bind _ = _
    rcases e2 with e2 | e2
    · rw [e2]
      show loopS b drop F (l.map enc) (wipR ρ2 drop) n = _
      rw [e3]; exact ih
    · rw [e2]
      show loopS b drop F (l.map enc) (wipR ρ2 drop) n = _
      rw [e3]; exact ih
/-- a loop that draws: what holds ahead of each turn -/
theorem loopS_inv {drop : List Nat} {I : Ro → Nat → Prop} : ∀ (xs : List D) (ρ : Ro) (n : Nat), I ρ n → (∀ x ∈ xs, ∀ ρ n, I ρ n → ∃ ρ1 ρ2 n', b x ρ = some ρ1 ∧ (F ρ1 n = some (.nx ρ2, n') ∨ F ρ1 n = some (.ct ρ2, n')) ∧ I (wipR ρ2 drop) n') →
    ∃ ρ' n', loopS b drop F xs ρ n = some (.nx ρ', n') ∧ I ρ' n'
  | [], ρ, n, hI, _ => ⟨ρ, n, rfl, hI⟩
  | x :: xs, ρ, n, hI, h => by
    obtain ⟨ρ1, ρ2, n1, e1, e2, i1⟩ := h x List.mem_cons_self ρ n hI
    obtain ⟨ρ', n', e3, i2⟩ := loopS_inv xs _ n1 i1 fun y hy => h y (List.mem_cons_of_mem _ hy)
    refine ⟨ρ', n', ?_, i2⟩
    show ((b x ρ).map fun a => (a, n)).bind _ = _
    rw [e1]
    show (F ρ1 n).bind _ = _
    rcases e2 with e2 | e2 <;> (rw [e2]; exact e3)
end
section
variable {b : BF} {F : SF}
theorem loopS_invI {drop : List Nat} {I : Nat → Ro → Nat → Prop} : ∀ (xs : List D) (i0 : Nat) (ρ : Ro) (n : Nat), I i0 ρ n → (∀ i x, xs[i]? = some x → ∀ ρ n, I (i0 + i) ρ n → ∃ ρ1 ρ2 n', b x ρ = some ρ1 ∧ (F ρ1 n = some (.nx ρ2, n') ∨ F ρ1 n = some (.ct ρ2, n')) ∧ I (i0 + i + 1) (wipR ρ2 drop) n') →
    ∃ ρ' n', loopS b drop F xs ρ n = some (.nx ρ', n') ∧ I (i0 + xs.length) ρ' n'
  | [], i0, ρ, n, hI, _ => ⟨ρ, n, rfl, hI⟩
  | x :: xs, i0, ρ, n, hI, h => by
    obtain ⟨ρ1, ρ2, n1, e1, e2, i1⟩ := h 0 x rfl ρ n hI
    obtain ⟨ρ', n', e3, i2⟩ := loopS_invI xs (i0 + 1) _ n1 i1 fun i y hy ρ n hi => by
      have := h (i + 1) y (by simpa using hy) ρ n (by rw [show i0 + (i + 1) = i0 + 1 + i by omega]; exact hi)
      rw [show i0 + (i + 1) + 1 = i0 + 1 + i + 1 by omega] at this
      exact this
    refine ⟨ρ', n', ?_, by rw [List.length_cons, show i0 + (xs.length + 1) = i0 + 1 + xs.length by omega]; exact i2⟩
    show ((b x ρ).map fun a => (a, n)).bind _ = _
    rw [e1]
    show (F ρ1 n).bind _ = _
    rcases e2 with e2 | e2 <;> (rw [e2]; exact e3)
end
theorem rngD_get {a b : Int} {i : Nat} {x : D} (h : (rngD a b)[i]? = some x) : x = .int (a + (i : Int)) ∧ i < (b - a).toNat := by
  unfold rngD at h
  rw [List.getElem?_map] at h
  cases hr : (List.range (b - a).toNat)[i]? with
  | none => rw [hr] at h; cases h
  | some j =>
    rw [hr] at h; cases h
    obtain ⟨h1, h2⟩ := List.getElem?_eq_some_iff.mp hr
    rw [List.getElem_range] at h2
    subst h2
    exact ⟨rfl, by simpa using h1⟩
theorem rngD_len {a b : Int} : (rngD a b).length = (b - a).toNat := by unfold rngD; rw [List.length_map, List.length_range]
theorem cutD_map {α : Type} (f : α → D) (xs : List α) (l u : Option Int) : cutD (xs.map f) l u = (cutD xs l u).map f := by
  unfold cutD
  rw [List.length_map, List.map_take, List.map_drop]
theorem rng1_run {f : Ro → M D} {ρ : Ro} {n m : Nat} {i : Int} (h : f ρ n = some (.int i, m)) (hi : -(2 ^ 62) ≤ i) (h2 : i ≤ 16777216) : rng1E f ρ n = some (rngD 0 i, m) := by
  show (f ρ n).bind _ = _
  rw [h]
  show ((if (rngOk i && decide (i.toNat ≤ sizeLine)) = true then some (rngD 0 i) else none).map fun a => (a, m)) = _
  rw [if_pos (by unfold rngOk; rw [sizeLine_eq]; simp only [Bool.and_eq_true, decide_eq_true_eq]; omega)]; rfl
theorem rng2_run {f g : Ro → M D} {ρ : Ro} {n m k : Nat} {i j : Int} (h : f ρ n = some (.int i, m)) (h2 : g ρ m = some (.int j, k)) (hi : -(2 ^ 61) ≤ i ∧ i < 2 ^ 61) (hj : -(2 ^ 61) ≤ j ∧ j < 2 ^ 61) (hl : j - i ≤ 16777216) : rng2E f g ρ n = some (rngD i j, k) := by
  show (f ρ n).bind _ = _
  rw [h]
  show (g ρ m).bind _ = _
  rw [h2]
  show ((if (rngOk i && rngOk j && decide ((j - i).toNat ≤ sizeLine)) = true then some (rngD i j) else none).map fun a => (a, k)) = _
  rw [if_pos (by unfold rngOk; rw [sizeLine_eq]; simp only [Bool.and_eq_true, decide_eq_true_eq]; omega)]; rfl
end L3
namespace L3
open PySem PySem.Spec PyProof.Rows L2
/-! ### data, as they answer -/
section
variable {a b : Int} {x y : Str} {c e : Bool} {xs ys : List D}
@[simp] theorem ltC_i : ltC (.int a) (.int b) = some (.bl (decide (a < b))) := nr rfl
@[simp] theorem leC_i : leC (.int a) (.int b) = some (.bl (decide (a ≤ b))) := nr rfl
@[simp] theorem gtC_i : gtC (.int a) (.int b) = some (.bl (decide (b < a))) := nr rfl
@[simp] theorem geC_i : geC (.int a) (.int b) = some (.bl (decide (b ≤ a))) := nr rfl
@[simp] theorem iadd_i : iadd (.int a) (.int b) = some (.int (a + b)) := nr rfl
@[simp] theorem isub_i : isub (.int a) (.int b) = some (.int (a - b)) := nr rfl
@[simp] theorem subD_i : subD (.int a) (.int b) = some (.int (a - b)) := nr rfl
@[simp] theorem addD_i : addD (.int a) (.int b) = some (.int (a + b)) := nr rfl
@[simp] theorem negD_i : negD (.int a) = some (.int (-a)) := nr rfl
@[simp] theorem absD_i : absD (.int a) = some (.int (if a < 0 then -a else a)) := nr rfl
@[simp] theorem intD_i : intD (.int a) = some (.int a) := nr rfl
theorem modD_i (h : b ≠ 0) : modD (.int a) (.int b) = some (.int (a.fmod b)) := by unfold modD intOp; simp [h]
theorem mulD_i (h : mulOk a b = true) : mulD (.int a) (.int b) = some (.int (a * b)) := by unfold mulD intOp; simp [h]
theorem divD_i (h : divOk a b = true) : divD (.int a) (.int b) = some (.int (a.fdiv b)) := by unfold divD intOp; simp [h]
@[simp] theorem min2_i : min2D (.int a) (.int b) = some (.int (if b < a then b else a)) := by unfold min2D; first | rfl | (simp; done) | (split <;> simp_all <;> omega)
@[simp] theorem isN_non : isN .non .non = some (.bl true) := nr rfl
@[simp] theorem isN_i : isN (.int a) .non = some (.bl false) := nr rfl
@[simp] theorem isN_s : isN (.str x) .non = some (.bl false) := nr rfl
@[simp] theorem isN_b : isN (.bl c) .non = some (.bl false) := nr rfl
@[simp] theorem isN_t : isN (.tup xs) .non = some (.bl false) := nr rfl
@[simp] theorem isNN_non : isNN .non .non = some (.bl false) := nr rfl
@[simp] theorem isNN_i : isNN (.int a) .non = some (.bl true) := nr rfl
@[simp] theorem isNN_s : isNN (.str x) .non = some (.bl true) := nr rfl
@[simp] theorem isNN_b : isNN (.bl c) .non = some (.bl true) := nr rfl
@[simp] theorem isNN_t : isNN (.tup xs) .non = some (.bl true) := nr rfl
@[simp] theorem lenD_l : lenD (.lst xs) = some (.int xs.length) := nr rfl
@[simp] theorem lenD_t : lenD (.tup xs) = some (.int xs.length) := nr rfl
@[simp] theorem lenD_r : lenD (.rol xs) = some (.int xs.length) := nr rfl
@[simp] theorem tupleD_l : tupleD (.lst xs) = some (.tup xs) := nr rfl
@[simp] theorem tupleD_t : tupleD (.tup xs) = some (.tup xs) := nr rfl
@[simp] theorem listD_l : listD (.lst xs) = some (.lst xs) := nr rfl
@[simp] theorem listD_t : listD (.tup xs) = some (.lst xs) := nr rfl
@[simp] theorem revD_l : revD (.lst xs) = some (.lst xs.reverse) := nr rfl
@[simp] theorem revD_t : revD (.tup xs) = some (.tup xs.reverse) := nr rfl
@[simp] theorem iterD_l : iterD (.lst xs) = some xs := nr rfl
@[simp] theorem iterD_t : iterD (.tup xs) = some xs := nr rfl
@[simp] theorem iterD_r : iterD (.rol xs) = some xs := nr rfl
@[simp] theorem seqD_l : seqD (.lst xs) = some xs := nr rfl
@[simp] theorem seqD_t : seqD (.tup xs) = some xs := nr rfl
@[simp] theorem seqD_r : seqD (.rol xs) = some xs := nr rfl
theorem atI_nat' {α : Type} {xs : List α} {j : Nat} : atI xs (j : Int) = xs[j]? := by
  cases h : xs[j]? with
  | some v => exact atI_nat h
  | none =>
    cases h2 : atI xs (j : Int) with
    | none => rfl
    | some v =>
      obtain ⟨i, h3, h4, h5, h6, h7⟩ := atI_get h2
      have : j < xs.length := by omega
      rw [List.getElem?_eq_getElem this] at h; cases h
theorem atI_neg1 {α : Type} {xs : List α} : atI xs (-1) = xs.getLast? := by
  cases h : xs.getLast? with
  | none =>
    rw [List.getLast?_eq_none_iff] at h
    subst h; rfl
  | some v =>
    obtain ⟨ys, rfl⟩ := List.getLast?_eq_some_iff.mp h
    exact atI_last _ _
theorem ixL {j : Nat} : ixD (.lst xs) (.int (j : Nat)) = xs[j]? := atI_nat'
theorem ixT {j : Nat} : ixD (.tup xs) (.int (j : Nat)) = xs[j]? := atI_nat'
theorem ixR {j : Nat} : ixD (.rol xs) (.int (j : Nat)) = xs[j]? := atI_nat'
@[simp] theorem ixL1 : ixD (.lst xs) (.int (-1)) = xs.getLast? := atI_neg1
@[simp] theorem ixT1 : ixD (.tup xs) (.int (-1)) = xs.getLast? := atI_neg1
theorem ixLlast (h : xs ≠ []) : ixD (.lst xs) (.int ((xs.length : Int) - 1)) = xs.getLast? := by
  have h0 : 0 < xs.length := List.length_pos_iff.mpr h
  rw [show ((xs.length : Int) - 1) = ((xs.length - 1 : Nat) : Int) by omega, ixL, List.getLast?_eq_getElem?]
@[simp] theorem ix30 {p q r : D} : ixD (.tup [p, q, r]) (.int 0) = some p := nr rfl
@[simp] theorem ix31 {p q r : D} : ixD (.tup [p, q, r]) (.int 1) = some q := nr rfl
@[simp] theorem ix32 {p q r : D} : ixD (.tup [p, q, r]) (.int 2) = some r := nr rfl
@[simp] theorem ix20 {p q : D} : ixD (.tup [p, q]) (.int 0) = some p := nr rfl
@[simp] theorem ix21 {p q : D} : ixD (.tup [p, q]) (.int 1) = some q := nr rfl
@[simp] theorem ix40 {p q r s : D} : ixD (.tup [p, q, r, s]) (.int 0) = some p := nr rfl
@[simp] theorem ix41 {p q r s : D} : ixD (.tup [p, q, r, s]) (.int 1) = some q := nr rfl
@[simp] theorem ix42 {p q r s : D} : ixD (.tup [p, q, r, s]) (.int 2) = some r := nr rfl
@[simp] theorem ix43 {p q r s : D} : ixD (.tup [p, q, r, s]) (.int 3) = some s := nr rfl
/-! isinstance -/
@[simp] theorem isi_t : isiD "tuple" (.tup xs) = some (.bl true) := nr (by first | rfl | decide +kernel)
@[simp] theorem isi_tn : isiD "tuple" .non = some (.bl false) := nr (by first | rfl | decide +kernel)
@[simp] theorem isi_tb : isiD "tuple" (.bl c) = some (.bl false) := nr (by first | rfl | decide +kernel)
@[simp] theorem isi_ti : isiD "tuple" (.int a) = some (.bl false) := nr (by first | rfl | decide +kernel)
@[simp] theorem isi_ts : isiD "tuple" (.str x) = some (.bl false) := nr (by first | rfl | decide +kernel)
@[simp] theorem isi_tl : isiD "tuple" (.lst xs) = some (.bl false) := nr (by first | rfl | decide +kernel)
@[simp] theorem isi_bn : isiD "bool" .non = some (.bl false) := nr (by first | rfl | decide +kernel)
@[simp] theorem isi_bb : isiD "bool" (.bl c) = some (.bl true) := nr (by first | rfl | decide +kernel)
@[simp] theorem isi_bi : isiD "bool" (.int a) = some (.bl false) := nr (by first | rfl | decide +kernel)
@[simp] theorem isi_bs : isiD "bool" (.str x) = some (.bl false) := nr (by first | rfl | decide +kernel)
@[simp] theorem isi_bt : isiD "bool" (.tup xs) = some (.bl false) := nr (by first | rfl | decide +kernel)
@[simp] theorem isi_in : isiD "int" .non = some (.bl false) := nr (by first | rfl | decide +kernel)
@[simp] theorem isi_ib : isiD "int" (.bl c) = some (.bl true) := nr (by first | rfl | decide +kernel)
@[simp] theorem isi_ii : isiD "int" (.int a) = some (.bl true) := nr (by first | rfl | decide +kernel)
@[simp] theorem isi_is : isiD "int" (.str x) = some (.bl false) := nr (by first | rfl | decide +kernel)
@[simp] theorem isi_it : isiD "int" (.tup xs) = some (.bl false) := nr (by first | rfl | decide +kernel)
@[simp] theorem isi_sn : isiD "str" .non = some (.bl false) := nr (by first | rfl | decide +kernel)
@[simp] theorem isi_sb : isiD "str" (.bl c) = some (.bl false) := nr (by first | rfl | decide +kernel)
@[simp] theorem isi_si : isiD "str" (.int a) = some (.bl false) := nr (by first | rfl | decide +kernel)
@[simp] theorem isi_ss : isiD "str" (.str x) = some (.bl true) := nr (by first | rfl | decide +kernel)
@[simp] theorem isi_st : isiD "str" (.tup xs) = some (.bl false) := nr (by first | rfl | decide +kernel)
/-! equality -/
theorem bd_eq {α : Type} [BEq α] [LawfulBEq α] [DecidableEq α] (a b : α) : (a == b) = decide (a = b) := by
  by_cases h : a = b <;> simp [h]
theorem eqD_of {d e : D} (h1 : plain d = true) (h2 : plain e = true) (h3 : dep d ≤ 60 ∨ dep e ≤ 60) : eqD d e = some (deq d e) := by
  unfold eqD
  rw [if_pos (by simp only [h1, h2, Bool.true_and, decide_eq_true_eq]; omega)]
theorem dep_nil : dep (.lst []) ≤ 60 := by decide
theorem deq_nil : deq (.lst xs) (.lst []) = xs.isEmpty := by
  cases xs with
  | nil => simp [deq, toPy, toPyL, PyData.eqv, PyData.eqvAll]
  | cons x xs => simp [deq, toPy, toPyL, PyData.eqv, PyData.eqvAll]
theorem eq_nil (h : plainL xs = true) : eqD (.lst xs) (.lst []) = some xs.isEmpty := by
  rw [eqD_of (show plain (.lst xs) = true from h) rfl (.inr dep_nil), deq_nil]
@[simp] theorem eq_ii : eqD (.int a) (.int b) = some (decide (a = b)) := by
  rw [eqD_of rfl rfl (.inl (by simp [dep, toPy, PyData.depth]))]
  simp [deq, toPy, PyData.eqv, bd_eq]
@[simp] theorem eq_ss : eqD (.str x) (.str y) = some (decide (x = y)) := by
  rw [eqD_of rfl rfl (.inl (by simp [dep, toPy, PyData.depth]))]
  simp [deq, toPy, PyData.eqv, bd_eq]
@[simp] theorem eq_nn : eqD .non .non = some true := nr rfl
@[simp] theorem eq_sn : eqD (.str x) .non = some false := by
  rw [eqD_of rfl rfl (.inl (by simp [dep, toPy, PyData.depth]))]; simp [deq, toPy, PyData.eqv]
@[simp] theorem eq_ns : eqD .non (.str x) = some false := by
  rw [eqD_of rfl rfl (.inl (by simp [dep, toPy, PyData.depth]))]; simp [deq, toPy, PyData.eqv]
@[simp] theorem eq_bb : eqD (.bl c) (.bl e) = some (decide (c = e)) := by
  rw [eqD_of rfl rfl (.inl (by simp [dep, toPy, PyData.depth]))]; simp [deq, toPy, PyData.eqv, bd_eq]
@[simp] theorem toB_some' {b : Bool} : toB (some b) = some (.bl b) := nr rfl
end
mutual
theorem deq_refl : ∀ d : D, plain d = true → deq d d = true
  | .non, _ => by simp [deq, toPy, PyData.eqv]
  | .bl b, _ => by simp [deq, toPy, PyData.eqv]
  | .int b, _ => by simp [deq, toPy, PyData.eqv]
  | .str b, _ => by simp [deq, toPy, PyData.eqv]
  | .tup xs, h => by
    have := deqL_refl xs h
    simpa [deq, toPy, PyData.eqv, deqL] using this
  | .lst xs, h => by
    have := deqL_refl xs h
    simpa [deq, toPy, PyData.eqv, deqL] using this
  | .rol _, h => by cases h
  | .dK _, h => by cases h
  | .dT _, h => by cases h
  | .w, h => by cases h
theorem deqL_refl : ∀ ds : List D, plainL ds = true → deqL ds ds = true
  | [], _ => by simp [deqL, toPyL, PyData.eqvAll]
  | d :: ds, h => by
    have h := Bool.and_eq_true_iff.mp (show (plain d && plainL ds) = true from h)
    have h1 := deq_refl d h.1
    have h2 := deqL_refl ds h.2
    unfold deq at h1; unfold deqL at h2
    simp [deqL, toPyL, PyData.eqvAll, h1, h2]
end
end L3
namespace K28
open PySem PySem.Spec PyProof.Rows L2 L3
/-! ### draws -/
theorem next_run (dr : List Int) (k : Int) (hk : 0 < k) (n : Nat) : ∃ r : Int, 0 ≤ r ∧ r < k ∧ g_law_next dr [.w, .int k] n = some (.int r, n + 1) := by
  have e1 : ∀ r : Ro, tickS 0 (some .w :: r) n = some (.nx (some .w :: r), n + 1) := fun _ => rfl
  have e2 : ∀ (r : Ro) (m : Nat), wAtE 0 (some .w :: r) m = some (.int m, m) := fun _ _ => rfl
  have e3 : ∀ (r : Ro) (m : Nat), wDrE dr 0 (some .w :: r) m = some (.lst (dr.map .int), m) := fun _ _ => rfl
  by_cases h : n < dr.length
  · refine ⟨(dr[n]).fmod k, Int.fmod_nonneg_of_pos _ hk, Int.fmod_lt_of_pos _ hk, ?_⟩
    have h2 : ¬ ((dr.length : Int) < ((n + 1 : Nat) : Int)) := by omega
    have h3 : (((n + 1 : Nat) : Int) - 1) = (n : Nat) := by omega
    have h4 : ixD (.lst (dr.map .int)) (.int (n : Nat)) = some (.int dr[n]) := by rw [ixL, List.getElem?_map, List.getElem?_eq_getElem h]; rfl
    simp only [g_law_next, f_law_next, r_runD, List.map_cons, List.map_nil, List.replicate, List.cons_append, List.nil_append, List.append_nil, r_seq, r_if, r_asB, r_un, r_bin, r_name, at_0, at_s, om_some, om_none, ob_some, ob_none, i_t, i_f, i_tt, i_ff, Bool.false_eq_true, asB'_bl, r_orT, r_andT, r_notT, r_orE, r_andE, r_notE, r_ifE, Bool.not_true, Bool.not_false, r_nil, seq'_nx, seq'_rt, seq'_ct, seq'_bk, r_ret, r_set, r_lc, r_mapA, r_nilA, r_consA, r_call, r_c, r_par, r_evalK, r_evalK0, setLR, r_unp, r_mut, r_put, r_aug, r_for, r_iter, r_seqE, r_zip, r_yes, r_noPart, r_aPart, part'_int, r_sl, r_chain, r_chainB, wipR, List.set_cons_zero, List.set_cons_succ, outD_rt, outD_nx, eq_self, decide_true, decide_false, ltC_i, leC_i, gtC_i, geC_i, iadd_i, isub_i, subD_i, addD_i, negD_i, absD_i, intD_i, min2_i, isN_non, isN_i, isN_s, isN_b, isN_t, isNN_non, isNN_i, isNN_s, isNN_b, isNN_t, lenD_l, lenD_t, lenD_r, tupleD_l, tupleD_t, listD_l, listD_t, revD_l, revD_t, iterD_l, iterD_t, iterD_r, seqD_l, seqD_t, seqD_r, ixL1, ixT1, ix20, ix21, ix30, ix31, ix32, ix40, ix41, ix42, ix43, isi_t, isi_tn, isi_tb, isi_ti, isi_ts, isi_tl, isi_bn, isi_bb, isi_bi, isi_bs, isi_bt, isi_in, isi_ib, isi_ii, isi_is, isi_it, isi_sn, isi_sb, isi_si, isi_ss, isi_st, eq_ii, eq_ss, eq_nn, eq_sn, eq_ns, eq_bb, toB_some', e1, e2, e3, List.length_map, h2, h3, h4, modD_i (show k ≠ 0 by omega)]
  · refine ⟨0, Int.le_refl 0, hk, ?_⟩
    have h2 : ((dr.length : Int) < ((n + 1 : Nat) : Int)) := by omega
    simp only [g_law_next, f_law_next, r_runD, List.map_cons, List.map_nil, List.replicate, List.cons_append, List.nil_append, List.append_nil, r_seq, r_if, r_asB, r_un, r_bin, r_name, at_0, at_s, om_some, om_none, ob_some, ob_none, i_t, i_f, i_tt, i_ff, Bool.false_eq_true, asB'_bl, r_orT, r_andT, r_notT, r_orE, r_andE, r_notE, r_ifE, Bool.not_true, Bool.not_false, r_nil, seq'_nx, seq'_rt, seq'_ct, seq'_bk, r_ret, r_set, r_lc, r_mapA, r_nilA, r_consA, r_call, r_c, r_par, r_evalK, r_evalK0, setLR, r_unp, r_mut, r_put, r_aug, r_for, r_iter, r_seqE, r_zip, r_yes, r_noPart, r_aPart, part'_int, r_sl, r_chain, r_chainB, wipR, List.set_cons_zero, List.set_cons_succ, outD_rt, outD_nx, eq_self, decide_true, decide_false, ltC_i, leC_i, gtC_i, geC_i, iadd_i, isub_i, subD_i, addD_i, negD_i, absD_i, intD_i, min2_i, isN_non, isN_i, isN_s, isN_b, isN_t, isNN_non, isNN_i, isNN_s, isNN_b, isNN_t, lenD_l, lenD_t, lenD_r, tupleD_l, tupleD_t, listD_l, listD_t, revD_l, revD_t, iterD_l, iterD_t, iterD_r, seqD_l, seqD_t, seqD_r, ixL1, ixT1, ix20, ix21, ix30, ix31, ix32, ix40, ix41, ix42, ix43, isi_t, isi_tn, isi_tb, isi_ti, isi_ts, isi_tl, isi_bn, isi_bb, isi_bi, isi_bs, isi_bt, isi_in, isi_ib, isi_ii, isi_is, isi_it, isi_sn, isi_sb, isi_si, isi_ss, isi_st, eq_ii, eq_ss, eq_nn, eq_sn, eq_ns, eq_bb, toB_some', e1, e2, e3, List.length_map, h2]
theorem pick_run (dr : List Int) (xs : List D) (hx : xs ≠ []) (n : Nat) : ∃ x ∈ xs, g_law_pick dr [.w, .lst xs] n = some (x, n + 1) := by
  have h0 : 0 < xs.length := List.length_pos_iff.mpr hx
  obtain ⟨r, h1, h2, h3⟩ := next_run dr (xs.length : Int) (by omega) n
  have h4 : r.toNat < xs.length := by omega
  refine ⟨xs[r.toNat], List.getElem_mem h4, ?_⟩
  have h5 : ixD (.lst xs) (.int r) = some xs[r.toNat] := by
    have e : D.int r = .int ((r.toNat : Nat) : Int) := by rw [show ((r.toNat : Nat) : Int) = r by omega]
    rw [e, ixL, List.getElem?_eq_getElem h4]
  simp only [g_law_pick, f_law_pick, r_runD, List.map_cons, List.map_nil, List.replicate, List.cons_append, List.nil_append, List.append_nil, r_seq, r_if, r_asB, r_un, r_bin, r_name, at_0, at_s, om_some, om_none, ob_some, ob_none, i_t, i_f, i_tt, i_ff, Bool.false_eq_true, asB'_bl, r_orT, r_andT, r_notT, r_orE, r_andE, r_notE, r_ifE, Bool.not_true, Bool.not_false, r_nil, seq'_nx, seq'_rt, seq'_ct, seq'_bk, r_ret, r_set, r_lc, r_mapA, r_nilA, r_consA, r_call, r_c, r_par, r_evalK, r_evalK0, setLR, r_unp, r_mut, r_put, r_aug, r_for, r_iter, r_seqE, r_zip, r_yes, r_noPart, r_aPart, part'_int, r_sl, r_chain, r_chainB, wipR, List.set_cons_zero, List.set_cons_succ, outD_rt, outD_nx, eq_self, decide_true, decide_false, ltC_i, leC_i, gtC_i, geC_i, iadd_i, isub_i, subD_i, addD_i, negD_i, absD_i, intD_i, min2_i, isN_non, isN_i, isN_s, isN_b, isN_t, isNN_non, isNN_i, isNN_s, isNN_b, isNN_t, lenD_l, lenD_t, lenD_r, tupleD_l, tupleD_t, listD_l, listD_t, revD_l, revD_t, iterD_l, iterD_t, iterD_r, seqD_l, seqD_t, seqD_r, ixL1, ixT1, ix20, ix21, ix30, ix31, ix32, ix40, ix41, ix42, ix43, isi_t, isi_tn, isi_tb, isi_ti, isi_ts, isi_tl, isi_bn, isi_bb, isi_bi, isi_bs, isi_bt, isi_in, isi_ib, isi_ii, isi_is, isi_it, isi_sn, isi_sb, isi_si, isi_ss, isi_st, eq_ii, eq_ss, eq_nn, eq_sn, eq_ns, eq_bb, toB_some', h3, h5]
/-! ### alike -/
mutual
/-- tuples of small data, no lists -/
def td : D → Bool
  | .non => true
  | .bl _ => true
  | .int _ => true
  | .str _ => true
  | .tup xs => decide (xs.length ≤ 1000) && tdL xs
  | _ => false
def tdL : List D → Bool
  | [] => true
  | d :: ds => td d && tdL ds
end
mutual
def dp : D → Nat
  | .tup xs => dpL xs + 1
  | _ => 1
def dpL : List D → Nat
  | [] => 0
  | d :: ds => max (dp d) (dpL ds)
end
theorem td_mem : ∀ {xs : List D} {x : D}, x ∈ xs → tdL xs = true → td x = true ∧ dp x ≤ dpL xs
  | d :: ds, x, h, hp => by
    have hp := Bool.and_eq_true_iff.mp (show (td d && tdL ds) = true from hp)
    rcases List.mem_cons.mp h with rfl | h
    · exact ⟨hp.1, by show dp x ≤ max (dp x) (dpL ds); omega⟩
    · have := td_mem h hp.2
      exact ⟨this.1, by show dp x ≤ max (dp d) (dpL ds); omega⟩
theorem td_tup {xs : List D} (h : td (.tup xs) = true) : xs.length ≤ 1000 ∧ tdL xs = true := by
  have := Bool.and_eq_true_iff.mp (show (decide (xs.length ≤ 1000) && tdL xs) = true from h)
  exact ⟨of_decide_eq_true this.1, this.2⟩
abbrev aB (gg : List D → M D) : Ro → M Bool := notT (asB (callE (consA (L3.bin (nameE 0) (nameE 2) ixD) (consA (L3.bin (nameE 1) (nameE 2) ixD) nilA)) gg))
theorem aB_run {gg : List D → M D} {xs : List D} {i m : Nat} (hi : i < xs.length) (ih : gg [xs[i], xs[i]] m = some (.bl true, m)) : aB gg [some (.tup xs), some (.tup xs), some (.int (0 + (i : Int)))] m = some (false, m) := by
  have e : ixD (.tup xs) (.int (i : Nat)) = some xs[i] := by rw [ixT, List.getElem?_eq_getElem hi]
  simp only [aB, r_runD, List.map_cons, List.map_nil, List.replicate, List.cons_append, List.nil_append, List.append_nil, r_seq, r_if, r_asB, r_un, r_bin, r_name, at_0, at_s, om_some, om_none, ob_some, ob_none, i_t, i_f, i_tt, i_ff, Bool.false_eq_true, asB'_bl, r_orT, r_andT, r_notT, r_orE, r_andE, r_notE, r_ifE, Bool.not_true, Bool.not_false, r_nil, seq'_nx, seq'_rt, seq'_ct, seq'_bk, r_ret, r_set, r_lc, r_mapA, r_nilA, r_consA, r_call, r_c, r_par, r_evalK, r_evalK0, setLR, r_unp, r_mut, r_put, r_aug, r_for, r_iter, r_seqE, r_zip, r_yes, r_noPart, r_aPart, part'_int, r_sl, r_chain, r_chainB, wipR, List.set_cons_zero, List.set_cons_succ, outD_rt, outD_nx, eq_self, decide_true, decide_false, Int.zero_add, e, ih]
theorem alike_tup {gg : List D → M D} {xs : List D} {n : Nat} (hl : xs.length ≤ 1000) (h : ∀ i m, (hi : i < xs.length) → gg [xs[i], xs[i]] m = some (.bl true, m)) : runD 1 (f_law_alike gg) [.tup xs, .tup xs] n = some (.bl true, n) := by
  have go : ∀ ρ m, lcGo (bindN 2) (aB gg) (nameE 2) [some (.tup xs), some (.tup xs), ρ] (rngD 0 xs.length) m = some ([], m) := by
    intro ρ m
    have := lcGo_map (b := bindN 2) (t := aB gg) (el := nameE 2) (ρ := [some (.tup xs), some (.tup xs), ρ]) (n := m)
      (fun i : Nat => D.int (0 + (i : Int))) (fun i => [some (.tup xs), some (.tup xs), some (.int (0 + (i : Int)))]) (fun _ => false) (fun i => .int 0) (List.range ((xs.length : Int) - 0).toNat)
      (fun a _ => rfl) (fun i hi => ?_) (fun _ _ h => by cases h)
    · rw [List.filter_eq_nil_iff.mpr (fun _ _ => by simp)] at this
      exact this
    · have hi : i < xs.length := by have := List.mem_range.mp hi; omega
      exact aB_run hi (h i m hi)
  have hr : rng1E (lenE (nameE 1)) [some (.tup xs), some (.tup xs), none] n = some (rngD 0 xs.length, n) := rng1_run (by simp) (by omega) (by omega)
  have e0 : eqD (.lst []) (.lst []) = some true := rfl
  have el : lstD [] = some (.lst []) := rfl
  have go := go none n
  simp only [aB] at go
  simp only [f_law_alike, r_runD, List.map_cons, List.map_nil, List.replicate, List.cons_append, List.nil_append, List.append_nil, r_seq, r_if, r_asB, r_un, r_bin, r_name, at_0, at_s, om_some, om_none, ob_some, ob_none, i_t, i_f, i_tt, i_ff, Bool.false_eq_true, asB'_bl, r_orT, r_andT, r_notT, r_orE, r_andE, r_notE, r_ifE, Bool.not_true, Bool.not_false, r_nil, seq'_nx, seq'_rt, seq'_ct, seq'_bk, r_ret, r_set, r_lc, r_mapA, r_nilA, r_consA, r_call, r_c, r_par, r_evalK, r_evalK0, setLR, r_unp, r_mut, r_put, r_aug, r_for, r_iter, r_seqE, r_zip, r_yes, r_noPart, r_aPart, part'_int, r_sl, r_chain, r_chainB, wipR, List.set_cons_zero, List.set_cons_succ, outD_rt, outD_nx, eq_self, decide_true, decide_false, ltC_i, leC_i, gtC_i, geC_i, iadd_i, isub_i, subD_i, addD_i, negD_i, absD_i, intD_i, min2_i, isN_non, isN_i, isN_s, isN_b, isN_t, isNN_non, isNN_i, isNN_s, isNN_b, isNN_t, lenD_l, lenD_t, lenD_r, tupleD_l, tupleD_t, listD_l, listD_t, revD_l, revD_t, iterD_l, iterD_t, iterD_r, seqD_l, seqD_t, seqD_r, ixL1, ixT1, ix20, ix21, ix30, ix31, ix32, ix40, ix41, ix42, ix43, isi_t, isi_tn, isi_tb, isi_ti, isi_ts, isi_tl, isi_bn, isi_bb, isi_bi, isi_bs, isi_bt, isi_in, isi_ib, isi_ii, isi_is, isi_it, isi_sn, isi_sb, isi_si, isi_ss, isi_st, eq_ii, eq_ss, eq_nn, eq_sn, eq_ns, eq_bb, toB_some', hr, go, el, e0]
theorem alike_refl : ∀ (k : Nat) (d : D) (n : Nat), td d = true → dp d ≤ k → g_law_alike k [d, d] n = some (.bl true, n)
  | 0, d, n, h, h2 => by cases d <;> simp [dp] at h2
  | k + 1, d, n, h, h2 => by
    cases d with
    | non => simp only [g_law_alike, f_law_alike, r_runD, List.map_cons, List.map_nil, List.replicate, List.cons_append, List.nil_append, List.append_nil, r_seq, r_if, r_asB, r_un, r_bin, r_name, at_0, at_s, om_some, om_none, ob_some, ob_none, i_t, i_f, i_tt, i_ff, Bool.false_eq_true, asB'_bl, r_orT, r_andT, r_notT, r_orE, r_andE, r_notE, r_ifE, Bool.not_true, Bool.not_false, r_nil, seq'_nx, seq'_rt, seq'_ct, seq'_bk, r_ret, r_set, r_lc, r_mapA, r_nilA, r_consA, r_call, r_c, r_par, r_evalK, r_evalK0, setLR, r_unp, r_mut, r_put, r_aug, r_for, r_iter, r_seqE, r_zip, r_yes, r_noPart, r_aPart, part'_int, r_sl, r_chain, r_chainB, wipR, List.set_cons_zero, List.set_cons_succ, outD_rt, outD_nx, eq_self, decide_true, decide_false, ltC_i, leC_i, gtC_i, geC_i, iadd_i, isub_i, subD_i, addD_i, negD_i, absD_i, intD_i, min2_i, isN_non, isN_i, isN_s, isN_b, isN_t, isNN_non, isNN_i, isNN_s, isNN_b, isNN_t, lenD_l, lenD_t, lenD_r, tupleD_l, tupleD_t, listD_l, listD_t, revD_l, revD_t, iterD_l, iterD_t, iterD_r, seqD_l, seqD_t, seqD_r, ixL1, ixT1, ix20, ix21, ix30, ix31, ix32, ix40, ix41, ix42, ix43, isi_t, isi_tn, isi_tb, isi_ti, isi_ts, isi_tl, isi_bn, isi_bb, isi_bi, isi_bs, isi_bt, isi_in, isi_ib, isi_ii, isi_is, isi_it, isi_sn, isi_sb, isi_si, isi_ss, isi_st, eq_ii, eq_ss, eq_nn, eq_sn, eq_ns, eq_bb, toB_some']
    | bl b => simp only [g_law_alike, f_law_alike, r_runD, List.map_cons, List.map_nil, List.replicate, List.cons_append, List.nil_append, List.append_nil, r_seq, r_if, r_asB, r_un, r_bin, r_name, at_0, at_s, om_some, om_none, ob_some, ob_none, i_t, i_f, i_tt, i_ff, Bool.false_eq_true, asB'_bl, r_orT, r_andT, r_notT, r_orE, r_andE, r_notE, r_ifE, Bool.not_true, Bool.not_false, r_nil, seq'_nx, seq'_rt, seq'_ct, seq'_bk, r_ret, r_set, r_lc, r_mapA, r_nilA, r_consA, r_call, r_c, r_par, r_evalK, r_evalK0, setLR, r_unp, r_mut, r_put, r_aug, r_for, r_iter, r_seqE, r_zip, r_yes, r_noPart, r_aPart, part'_int, r_sl, r_chain, r_chainB, wipR, List.set_cons_zero, List.set_cons_succ, outD_rt, outD_nx, eq_self, decide_true, decide_false, ltC_i, leC_i, gtC_i, geC_i, iadd_i, isub_i, subD_i, addD_i, negD_i, absD_i, intD_i, min2_i, isN_non, isN_i, isN_s, isN_b, isN_t, isNN_non, isNN_i, isNN_s, isNN_b, isNN_t, lenD_l, lenD_t, lenD_r, tupleD_l, tupleD_t, listD_l, listD_t, revD_l, revD_t, iterD_l, iterD_t, iterD_r, seqD_l, seqD_t, seqD_r, ixL1, ixT1, ix20, ix21, ix30, ix31, ix32, ix40, ix41, ix42, ix43, isi_t, isi_tn, isi_tb, isi_ti, isi_ts, isi_tl, isi_bn, isi_bb, isi_bi, isi_bs, isi_bt, isi_in, isi_ib, isi_ii, isi_is, isi_it, isi_sn, isi_sb, isi_si, isi_ss, isi_st, eq_ii, eq_ss, eq_nn, eq_sn, eq_ns, eq_bb, toB_some']
    | int b => simp only [g_law_alike, f_law_alike, r_runD, List.map_cons, List.map_nil, List.replicate, List.cons_append, List.nil_append, List.append_nil, r_seq, r_if, r_asB, r_un, r_bin, r_name, at_0, at_s, om_some, om_none, ob_some, ob_none, i_t, i_f, i_tt, i_ff, Bool.false_eq_true, asB'_bl, r_orT, r_andT, r_notT, r_orE, r_andE, r_notE, r_ifE, Bool.not_true, Bool.not_false, r_nil, seq'_nx, seq'_rt, seq'_ct, seq'_bk, r_ret, r_set, r_lc, r_mapA, r_nilA, r_consA, r_call, r_c, r_par, r_evalK, r_evalK0, setLR, r_unp, r_mut, r_put, r_aug, r_for, r_iter, r_seqE, r_zip, r_yes, r_noPart, r_aPart, part'_int, r_sl, r_chain, r_chainB, wipR, List.set_cons_zero, List.set_cons_succ, outD_rt, outD_nx, eq_self, decide_true, decide_false, ltC_i, leC_i, gtC_i, geC_i, iadd_i, isub_i, subD_i, addD_i, negD_i, absD_i, intD_i, min2_i, isN_non, isN_i, isN_s, isN_b, isN_t, isNN_non, isNN_i, isNN_s, isNN_b, isNN_t, lenD_l, lenD_t, lenD_r, tupleD_l, tupleD_t, listD_l, listD_t, revD_l, revD_t, iterD_l, iterD_t, iterD_r, seqD_l, seqD_t, seqD_r, ixL1, ixT1, ix20, ix21, ix30, ix31, ix32, ix40, ix41, ix42, ix43, isi_t, isi_tn, isi_tb, isi_ti, isi_ts, isi_tl, isi_bn, isi_bb, isi_bi, isi_bs, isi_bt, isi_in, isi_ib, isi_ii, isi_is, isi_it, isi_sn, isi_sb, isi_si, isi_ss, isi_st, eq_ii, eq_ss, eq_nn, eq_sn, eq_ns, eq_bb, toB_some']
    | str b => simp only [g_law_alike, f_law_alike, r_runD, List.map_cons, List.map_nil, List.replicate, List.cons_append, List.nil_append, List.append_nil, r_seq, r_if, r_asB, r_un, r_bin, r_name, at_0, at_s, om_some, om_none, ob_some, ob_none, i_t, i_f, i_tt, i_ff, Bool.false_eq_true, asB'_bl, r_orT, r_andT, r_notT, r_orE, r_andE, r_notE, r_ifE, Bool.not_true, Bool.not_false, r_nil, seq'_nx, seq'_rt, seq'_ct, seq'_bk, r_ret, r_set, r_lc, r_mapA, r_nilA, r_consA, r_call, r_c, r_par, r_evalK, r_evalK0, setLR, r_unp, r_mut, r_put, r_aug, r_for, r_iter, r_seqE, r_zip, r_yes, r_noPart, r_aPart, part'_int, r_sl, r_chain, r_chainB, wipR, List.set_cons_zero, List.set_cons_succ, outD_rt, outD_nx, eq_self, decide_true, decide_false, ltC_i, leC_i, gtC_i, geC_i, iadd_i, isub_i, subD_i, addD_i, negD_i, absD_i, intD_i, min2_i, isN_non, isN_i, isN_s, isN_b, isN_t, isNN_non, isNN_i, isNN_s, isNN_b, isNN_t, lenD_l, lenD_t, lenD_r, tupleD_l, tupleD_t, listD_l, listD_t, revD_l, revD_t, iterD_l, iterD_t, iterD_r, seqD_l, seqD_t, seqD_r, ixL1, ixT1, ix20, ix21, ix30, ix31, ix32, ix40, ix41, ix42, ix43, isi_t, isi_tn, isi_tb, isi_ti, isi_ts, isi_tl, isi_bn, isi_bb, isi_bi, isi_bs, isi_bt, isi_in, isi_ib, isi_ii, isi_is, isi_it, isi_sn, isi_sb, isi_si, isi_ss, isi_st, eq_ii, eq_ss, eq_nn, eq_sn, eq_ns, eq_bb, toB_some']
    | tup xs =>
      obtain ⟨h3, h4⟩ := td_tup h
      refine alike_tup h3 fun i m hi => ?_
      have hm := td_mem (List.getElem_mem hi) h4
      have : dpL xs + 1 ≤ k + 1 := h2
      exact alike_refl k _ m hm.1 (by omega)
    | _ => cases h
end K28
namespace K28
open PySem PySem.Spec PyProof.Rows L2 L3
theorem app_int {dl : List Int} {i : Int} (h : dl.length ≤ 1000000) : appD (.lst (dl.map .int)) (.int i) = some (.lst ((dl ++ [i]).map .int)) := by
  show (if (dl.map D.int).length < sizeLine then some (D.lst (dl.map D.int ++ [.int i])) else none) = _
  rw [if_pos (by rw [List.length_map, sizeLine_eq]; omega), List.map_append]; rfl
/-- the slots of _law_draws -/
abbrev E8 (ns dl : List Int) (mx : Int) (a b c d : Option D) : Ro := [some (.rol (ns.map .int)), some (.int 600), some (.lst (dl.map .int)), some (.int mx), a, b, c, d]
abbrev bI : SF := (seqS (ifS (asB (L3.bin (nameE 6) (cE (.int 0)) gtC)) (seqS (mutS 2 (L3.bin (un (nameE 6) L3.intD) (cE (.int 997)) modD) appD) (seqS (setS 6 (L3.bin (nameE 6) (cE (.int 997)) divD)) nilS)) nilS) nilS)
theorem draws_in (ns : List Int) (n : Nat) (k cell rest mx : Int) (dl : List Int) (L : Nat) (h1 : dl.length ≤ L) (h2 : L ≤ 10000) : ∃ (dl' : List Int) (rest' : Int), dl'.length ≤ L + 60 ∧
    forS (rng1E (cE (.int 60))) (bindN 7) [7] bI (E8 ns dl mx (some (.int k)) (some (.int cell)) (some (.int rest)) none) n = some (.nx (E8 ns dl' mx (some (.int k)) (some (.int cell)) (some (.int rest')) none), n) := by
  obtain ⟨q, hq⟩ : ∃ q, powD (.int 10) (.int 18) = some (.int q) := ⟨_, rfl⟩
  have m1 : ∀ a : Int, mulD (.int a) (.int 48271) = some (.int (a * 48271)) := fun a => mulD_i (by unfold mulOk; simp)
  have m2 : ∀ a : Int, mulD (.int a) (.int 69621) = some (.int (a * 69621)) := fun a => mulD_i (by unfold mulOk; simp)
  have m3 : ∀ a : Int, mulD (.int a) (.int 16807) = some (.int (a * 16807)) := fun a => mulD_i (by unfold mulOk; simp)
  have d1 : ∀ a : Int, modD (.int a) (.int 997) = some (.int (a.fmod 997)) := fun a => modD_i (by decide)
  have d2 : ∀ a : Int, modD (.int a) (.int 1000003) = some (.int (a.fmod 1000003)) := fun a => modD_i (by decide)
  have d3 : ∀ a : Int, modD (.int a) (.int 65537) = some (.int (a.fmod 65537)) := fun a => modD_i (by decide)
  have d4 : ∀ a : Int, modD (.int a) (.int 65521) = some (.int (a.fmod 65521)) := fun a => modD_i (by decide)
  have v1 : ∀ a : Int, divD (.int a) (.int 997) = some (.int (a.fdiv 997)) := fun a => divD_i (by unfold divOk; simp)
  have hr : rng1E (cE (.int 60)) (E8 ns dl mx (some (.int k)) (some (.int cell)) (some (.int rest)) none) n = some (rngD 0 60, n) := rng1_run r_c (by decide) (by decide)
  obtain ⟨ρ', n', e, hI⟩ := loopS_invI (b := bindN 7) (drop := [7]) (F := bI)
    (I := fun i ρ m => m = n ∧ ∃ (dl' : List Int) (rest' : Int), dl'.length ≤ L + i ∧ ρ = E8 ns dl' mx (some (.int k)) (some (.int cell)) (some (.int rest')) none)
    (rngD 0 60) 0 _ n ⟨rfl, dl, rest, by omega, rfl⟩ (fun i x hx ρ m ⟨hm, dl', rest', h3, h4⟩ => by
      subst hm h4
      obtain ⟨rfl, hi⟩ := rngD_get hx
      have ha : ∀ z, appD (.lst (dl'.map .int)) (.int z) = some (.lst ((dl' ++ [z]).map .int)) := fun z => app_int (by omega)
      by_cases hc : 0 < rest'
      · refine ⟨_, E8 ns (dl' ++ [rest'.fmod 997]) mx (some (.int k)) (some (.int cell)) (some (.int (rest'.fdiv 997))) (some (.int (0 + (i : Int)))), m, rfl, .inl ?_, rfl, dl' ++ [rest'.fmod 997], rest'.fdiv 997, by simp; omega, rfl⟩
        simp only [bI, E8, r_runD, List.map_cons, List.map_nil, List.replicate, List.cons_append, List.nil_append, List.append_nil, r_seq, r_if, r_asB, r_un, r_bin, r_name, at_0, at_s, om_some, om_none, ob_some, ob_none, i_t, i_f, i_tt, i_ff, Bool.false_eq_true, asB'_bl, r_orT, r_andT, r_notT, r_orE, r_andE, r_notE, r_ifE, Bool.not_true, Bool.not_false, r_nil, seq'_nx, seq'_rt, seq'_ct, seq'_bk, r_ret, r_set, r_lc, r_mapA, r_nilA, r_consA, r_call, r_c, r_par, r_evalK, r_evalK0, setLR, r_unp, r_mut, r_put, r_aug, r_for, r_iter, r_seqE, r_zip, r_yes, r_noPart, r_aPart, part'_int, r_sl, r_chain, r_chainB, wipR, List.set_cons_zero, List.set_cons_succ, outD_rt, outD_nx, eq_self, decide_true, decide_false, ltC_i, leC_i, gtC_i, geC_i, iadd_i, isub_i, subD_i, addD_i, negD_i, absD_i, intD_i, min2_i, isN_non, isN_i, isN_s, isN_b, isN_t, isNN_non, isNN_i, isNN_s, isNN_b, isNN_t, lenD_l, lenD_t, lenD_r, tupleD_l, tupleD_t, listD_l, listD_t, revD_l, revD_t, iterD_l, iterD_t, iterD_r, seqD_l, seqD_t, seqD_r, ixL1, ixT1, ix20, ix21, ix30, ix31, ix32, ix40, ix41, ix42, ix43, isi_t, isi_tn, isi_tb, isi_ti, isi_ts, isi_tl, isi_bn, isi_bb, isi_bi, isi_bs, isi_bt, isi_in, isi_ib, isi_ii, isi_is, isi_it, isi_sn, isi_sb, isi_si, isi_ss, isi_st, eq_ii, eq_ss, eq_nn, eq_sn, eq_ns, eq_bb, toB_some', hc, d1, v1, ha]
      · refine ⟨_, E8 ns dl' mx (some (.int k)) (some (.int cell)) (some (.int rest')) (some (.int (0 + (i : Int)))), m, rfl, .inl ?_, rfl, dl', rest', by omega, rfl⟩
        simp only [bI, E8, r_runD, List.map_cons, List.map_nil, List.replicate, List.cons_append, List.nil_append, List.append_nil, r_seq, r_if, r_asB, r_un, r_bin, r_name, at_0, at_s, om_some, om_none, ob_some, ob_none, i_t, i_f, i_tt, i_ff, Bool.false_eq_true, asB'_bl, r_orT, r_andT, r_notT, r_orE, r_andE, r_notE, r_ifE, Bool.not_true, Bool.not_false, r_nil, seq'_nx, seq'_rt, seq'_ct, seq'_bk, r_ret, r_set, r_lc, r_mapA, r_nilA, r_consA, r_call, r_c, r_par, r_evalK, r_evalK0, setLR, r_unp, r_mut, r_put, r_aug, r_for, r_iter, r_seqE, r_zip, r_yes, r_noPart, r_aPart, part'_int, r_sl, r_chain, r_chainB, wipR, List.set_cons_zero, List.set_cons_succ, outD_rt, outD_nx, eq_self, decide_true, decide_false, ltC_i, leC_i, gtC_i, geC_i, iadd_i, isub_i, subD_i, addD_i, negD_i, absD_i, intD_i, min2_i, isN_non, isN_i, isN_s, isN_b, isN_t, isNN_non, isNN_i, isNN_s, isNN_b, isNN_t, lenD_l, lenD_t, lenD_r, tupleD_l, tupleD_t, listD_l, listD_t, revD_l, revD_t, iterD_l, iterD_t, iterD_r, seqD_l, seqD_t, seqD_r, ixL1, ixT1, ix20, ix21, ix30, ix31, ix32, ix40, ix41, ix42, ix43, isi_t, isi_tn, isi_tb, isi_ti, isi_ts, isi_tl, isi_bn, isi_bb, isi_bi, isi_bs, isi_bt, isi_in, isi_ib, isi_ii, isi_is, isi_it, isi_sn, isi_sb, isi_si, isi_ss, isi_st, eq_ii, eq_ss, eq_nn, eq_sn, eq_ns, eq_bb, toB_some', hc])
  obtain ⟨rfl, dl', rest', h3, rfl⟩ := hI
  rw [rngD_len] at h3
  refine ⟨dl', rest', by simpa using h3, ?_⟩
  rw [r_for, hr]
  exact e
abbrev bO : SF := (seqS (setS 5 (un (un (L3.bin (nameE 0) (nameE 4) ixD) L3.intD) absD)) (seqS (setS 3 (L3.bin (un (L3.bin (L3.bin (L3.bin (nameE 3) (cE (.int 48271)) mulD) (L3.bin (nameE 5) (cE (.int 1000003)) modD) addD) (nameE 4) addD) L3.intD) (cE (.int 65537)) modD)) (seqS (setS 6 (cE (.int 0))) (seqS (ifS (asB (L3.bin (nameE 5) (L3.bin (cE (.int 10)) (cE (.int 18)) powD) geC)) (seqS (setS 6 (nameE 5)) nilS) (seqS (mutS 2 (L3.bin (un (nameE 5) L3.intD) (cE (.int 997)) modD) appD) (seqS (mutS 2 (L3.bin (L3.bin (un (L3.bin (L3.bin (nameE 3) (cE (.int 69621)) mulD) (cE (.int 5)) addD) L3.intD) (cE (.int 65521)) modD) (cE (.int 997)) modD) appD) nilS))) (seqS (forS (rng1E (cE (.int 60))) (bindN 7) [7] bI) nilS)))))
theorem draws_out (ns : List Int) (hl : ns.length ≤ 63) (n : Nat) : ∃ (dl' : List Int) (mx : Int), dl'.length ≤ 62 * 63 ∧ loopS (bindN 4) [4, 5, 6, 7] bO (rngD 0 (ns.length : Int)) (E8 ns [] 7 none none none none) n = some (.nx (E8 ns dl' mx none none none none), n) := by
  obtain ⟨q, hq⟩ : ∃ q, powD (.int 10) (.int 18) = some (.int q) := ⟨_, rfl⟩
  have m1 : ∀ a : Int, mulD (.int a) (.int 48271) = some (.int (a * 48271)) := fun a => mulD_i (by unfold mulOk; simp)
  have m2 : ∀ a : Int, mulD (.int a) (.int 69621) = some (.int (a * 69621)) := fun a => mulD_i (by unfold mulOk; simp)
  have m3 : ∀ a : Int, mulD (.int a) (.int 16807) = some (.int (a * 16807)) := fun a => mulD_i (by unfold mulOk; simp)
  have d1 : ∀ a : Int, modD (.int a) (.int 997) = some (.int (a.fmod 997)) := fun a => modD_i (by decide)
  have d2 : ∀ a : Int, modD (.int a) (.int 1000003) = some (.int (a.fmod 1000003)) := fun a => modD_i (by decide)
  have d3 : ∀ a : Int, modD (.int a) (.int 65537) = some (.int (a.fmod 65537)) := fun a => modD_i (by decide)
  have d4 : ∀ a : Int, modD (.int a) (.int 65521) = some (.int (a.fmod 65521)) := fun a => modD_i (by decide)
  have v1 : ∀ a : Int, divD (.int a) (.int 997) = some (.int (a.fdiv 997)) := fun a => divD_i (by unfold divOk; simp)
  obtain ⟨ρ', n', e, hI⟩ := loopS_invI (b := bindN 4) (drop := [4, 5, 6, 7]) (F := bO)
    (I := fun i ρ m => m = n ∧ ∃ (dl' : List Int) (mx : Int), dl'.length ≤ 62 * i ∧ ρ = E8 ns dl' mx none none none none)
    (rngD 0 (ns.length : Int)) 0 (E8 ns [] 7 none none none none) n ⟨rfl, [], 7, by simp, rfl⟩ (fun i x hx ρ m ⟨hm, dl', mx, h3, h4⟩ => by
      subst hm h4
      obtain ⟨rfl, hi⟩ := rngD_get hx
      have hi' : i < ns.length := by omega
      have e1 : ixD (.rol (ns.map .int)) (.int (0 + (i : Int))) = some (.int ns[i]) := by
        rw [show (0 + (i : Int)) = (i : Nat) by omega, ixR, List.getElem?_map, List.getElem?_eq_getElem hi']; rfl
      let cell := if ns[i] < 0 then -ns[i] else ns[i]
      let mx' := (mx * 48271 + cell.fmod 1000003 + (0 + (i : Int))).fmod 65537
      by_cases hc : q ≤ cell
      · obtain ⟨dl2, rest2, g1, g2⟩ := draws_in ns m (0 + (i : Int)) cell cell mx' dl' (62 * i) (by omega) (by omega)
        simp only [E8] at g2
        refine ⟨_, E8 ns dl2 mx' (some (.int (0 + (i : Int)))) (some (.int cell)) (some (.int rest2)) none, m, rfl, .inl ?_, rfl, dl2, mx', by omega, rfl⟩
        simp only [cell] at hc g2 ⊢
        simp only [mx', cell] at g2 ⊢
        simp only [bO, E8, r_runD, r_seq, r_set, r_un, r_bin, r_name, at_0, at_s, om_some, ob_some, e1, intD_i, absD_i, List.set_cons_zero, List.set_cons_succ, seq'_nx, r_c, m1, d2, addD_i, d3, r_if, r_asB, hq, geC_i, hc, decide_true, asB'_bl, i_tt, i_t, eq_self, r_nil, g2]
      · have a1 : ∀ z, appD (.lst (dl'.map .int)) (.int z) = some (.lst ((dl' ++ [z]).map .int)) := fun z => app_int (by omega)
        have a2 : ∀ y z, appD (.lst ((dl' ++ [y]).map .int)) (.int z) = some (.lst ((dl' ++ [y] ++ [z]).map .int)) := fun y z => app_int (by simp; omega)
        obtain ⟨dl2, rest2, g1, g2⟩ := draws_in ns m (0 + (i : Int)) cell 0 mx' (dl' ++ [cell.fmod 997] ++ [((mx' * 69621 + 5).fmod 65521).fmod 997]) (62 * i + 2) (by simp; omega) (by omega)
        simp only [E8] at g2
        refine ⟨_, E8 ns dl2 mx' (some (.int (0 + (i : Int)))) (some (.int cell)) (some (.int rest2)) none, m, rfl, .inl ?_, rfl, dl2, mx', by omega, rfl⟩
        simp only [cell] at hc g2 ⊢
        simp only [mx', cell] at g2 ⊢
        simp only [bO, E8, r_runD, r_seq, r_set, r_un, r_bin, r_name, at_0, at_s, om_some, ob_some, e1, intD_i, absD_i, List.set_cons_zero, List.set_cons_succ, seq'_nx, r_c, m1, m2, d1, d2, d4, addD_i, d3, r_if, r_asB, hq, geC_i, hc, decide_false, asB'_bl, i_ff, i_f, Bool.false_eq_true, r_nil, r_mut, a1, a2, g2])
  obtain ⟨rfl, dl', mx, h3, rfl⟩ := hI
  rw [rngD_len] at h3
  exact ⟨dl', mx, by omega, e⟩
abbrev bP : SF := (seqS (setS 3 (L3.bin (un (L3.bin (L3.bin (L3.bin (nameE 3) (cE (.int 16807)) mulD) (nameE 4) addD) (cE (.int 1)) addD) L3.intD) (cE (.int 65537)) modD)) (seqS (mutS 2 (L3.bin (un (nameE 3) L3.intD) (cE (.int 997)) modD) appD) nilS))
theorem draws_end (ns dl : List Int) (mx : Int) (hl : dl.length ≤ 62 * 63) (n : Nat) : ∃ (dl' : List Int) (mx' : Int), loopS (bindN 4) [4] bP (rngD 0 600) (E8 ns dl mx none none none none) n = some (.nx (E8 ns dl' mx' none none none none), n) := by
  obtain ⟨q, hq⟩ : ∃ q, powD (.int 10) (.int 18) = some (.int q) := ⟨_, rfl⟩
  have m1 : ∀ a : Int, mulD (.int a) (.int 48271) = some (.int (a * 48271)) := fun a => mulD_i (by unfold mulOk; simp)
  have m2 : ∀ a : Int, mulD (.int a) (.int 69621) = some (.int (a * 69621)) := fun a => mulD_i (by unfold mulOk; simp)
  have m3 : ∀ a : Int, mulD (.int a) (.int 16807) = some (.int (a * 16807)) := fun a => mulD_i (by unfold mulOk; simp)
  have d1 : ∀ a : Int, modD (.int a) (.int 997) = some (.int (a.fmod 997)) := fun a => modD_i (by decide)
  have d2 : ∀ a : Int, modD (.int a) (.int 1000003) = some (.int (a.fmod 1000003)) := fun a => modD_i (by decide)
  have d3 : ∀ a : Int, modD (.int a) (.int 65537) = some (.int (a.fmod 65537)) := fun a => modD_i (by decide)
  have d4 : ∀ a : Int, modD (.int a) (.int 65521) = some (.int (a.fmod 65521)) := fun a => modD_i (by decide)
  have v1 : ∀ a : Int, divD (.int a) (.int 997) = some (.int (a.fdiv 997)) := fun a => divD_i (by unfold divOk; simp)
  obtain ⟨ρ', n', e, hI⟩ := loopS_invI (b := bindN 4) (drop := [4]) (F := bP)
    (I := fun i ρ m => m = n ∧ ∃ (dl' : List Int) (mx : Int), dl'.length ≤ 62 * 63 + i ∧ ρ = E8 ns dl' mx none none none none)
    (rngD 0 600) 0 (E8 ns dl mx none none none none) n ⟨rfl, dl, mx, by omega, rfl⟩ (fun i x hx ρ m ⟨hm, dl', mx, h3, h4⟩ => by
      subst hm h4
      obtain ⟨rfl, hi⟩ := rngD_get hx
      have hi2 : i < 600 := hi
      have a1 : ∀ z, appD (.lst (dl'.map .int)) (.int z) = some (.lst ((dl' ++ [z]).map .int)) := fun z => app_int (by omega)
      refine ⟨_, E8 ns (dl' ++ [((mx * 16807 + (0 + (i : Int)) + 1).fmod 65537).fmod 997]) ((mx * 16807 + (0 + (i : Int)) + 1).fmod 65537) (some (.int (0 + (i : Int)))) none none none, m, rfl, .inl ?_, rfl, _, _, by simp; omega, rfl⟩
      simp only [bP, E8, r_seq, r_set, r_un, r_bin, r_name, at_0, at_s, om_some, ob_some, intD_i, List.set_cons_zero, List.set_cons_succ, seq'_nx, r_c, m3, addD_i, d3, d1, r_nil, r_mut, a1])
  obtain ⟨rfl, dl', mx', h3, rfl⟩ := hI
  exact ⟨dl', mx', e⟩
theorem draws_run (ns : List Int) (hl : ns.length ≤ 63) (n : Nat) : ∃ dr : List Int, g_law_draws [.rol (ns.map .int), .int 600] n = some (.lst (dr.map .int), n) := by
  obtain ⟨dl, mx, h1, h2⟩ := draws_out ns hl n
  obtain ⟨dl2, mx2, h3⟩ := draws_end ns dl mx h1 n
  simp only [E8, bO, bI, bP, List.map_nil] at h2 h3
  have el : lstD [] = some (.lst []) := nr rfl
  have r0 : rng1E (lenE (nameE 0)) [some (.rol (ns.map .int)), some (.int 600), some (.lst []), some (.int 7), none, none, none, none] n = some (rngD 0 (ns.length : Int), n) := rng1_run (by simp only [r_runD, List.map_cons, List.map_nil, List.replicate, List.cons_append, List.nil_append, List.append_nil, r_seq, r_if, r_asB, r_un, r_bin, r_name, at_0, at_s, om_some, om_none, ob_some, ob_none, i_t, i_f, i_tt, i_ff, Bool.false_eq_true, asB'_bl, r_orT, r_andT, r_notT, r_orE, r_andE, r_notE, r_ifE, Bool.not_true, Bool.not_false, r_nil, seq'_nx, seq'_rt, seq'_ct, seq'_bk, r_ret, r_set, r_lc, r_mapA, r_nilA, r_consA, r_call, r_c, r_par, r_evalK, r_evalK0, setLR, r_unp, r_mut, r_put, r_aug, r_for, r_iter, r_seqE, r_zip, r_yes, r_noPart, r_aPart, part'_int, r_sl, r_chain, r_chainB, wipR, List.set_cons_zero, List.set_cons_succ, outD_rt, outD_nx, eq_self, decide_true, decide_false, ltC_i, leC_i, gtC_i, geC_i, iadd_i, isub_i, subD_i, addD_i, negD_i, absD_i, intD_i, min2_i, isN_non, isN_i, isN_s, isN_b, isN_t, isNN_non, isNN_i, isNN_s, isNN_b, isNN_t, lenD_l, lenD_t, lenD_r, tupleD_l, tupleD_t, listD_l, listD_t, revD_l, revD_t, iterD_l, iterD_t, iterD_r, seqD_l, seqD_t, seqD_r, ixL1, ixT1, ix20, ix21, ix30, ix31, ix32, ix40, ix41, ix42, ix43, isi_t, isi_tn, isi_tb, isi_ti, isi_ts, isi_tl, isi_bn, isi_bb, isi_bi, isi_bs, isi_bt, isi_in, isi_ib, isi_ii, isi_is, isi_it, isi_sn, isi_sb, isi_si, isi_ss, isi_st, eq_ii, eq_ss, eq_nn, eq_sn, eq_ns, eq_bb, toB_some', List.length_map]) (by omega) (by omega)
  have r1 : rng1E (nameE 1) [some (.rol (ns.map .int)), some (.int 600), some (.lst (dl.map .int)), some (.int mx), none, none, none, none] n = some (rngD 0 600, n) := rng1_run (by simp only [r_runD, List.map_cons, List.map_nil, List.replicate, List.cons_append, List.nil_append, List.append_nil, r_seq, r_if, r_asB, r_un, r_bin, r_name, at_0, at_s, om_some, om_none, ob_some, ob_none, i_t, i_f, i_tt, i_ff, Bool.false_eq_true, asB'_bl, r_orT, r_andT, r_notT, r_orE, r_andE, r_notE, r_ifE, Bool.not_true, Bool.not_false, r_nil, seq'_nx, seq'_rt, seq'_ct, seq'_bk, r_ret, r_set, r_lc, r_mapA, r_nilA, r_consA, r_call, r_c, r_par, r_evalK, r_evalK0, setLR, r_unp, r_mut, r_put, r_aug, r_for, r_iter, r_seqE, r_zip, r_yes, r_noPart, r_aPart, part'_int, r_sl, r_chain, r_chainB, wipR, List.set_cons_zero, List.set_cons_succ, outD_rt, outD_nx, eq_self, decide_true, decide_false]) (by decide) (by decide)
  have es : slD (.lst (dl2.map .int)) none (some 600) = some (.lst ((cutD dl2 none (some 600)).map .int)) := by
    show some (D.lst (cutD (dl2.map .int) none (some 600))) = _
    rw [cutD_map]
  refine ⟨cutD dl2 none (some 600), ?_⟩
  simp only [g_law_draws, f_law_draws, r_runD, List.map_cons, List.map_nil, List.replicate, List.cons_append, List.nil_append, List.append_nil, r_seq, r_if, r_asB, r_un, r_bin, r_name, at_0, at_s, om_some, om_none, ob_some, ob_none, i_t, i_f, i_tt, i_ff, Bool.false_eq_true, asB'_bl, r_orT, r_andT, r_notT, r_orE, r_andE, r_notE, r_ifE, Bool.not_true, Bool.not_false, r_nil, seq'_nx, seq'_rt, seq'_ct, seq'_bk, r_ret, r_set, r_lc, r_mapA, r_nilA, r_consA, r_call, r_c, r_par, r_evalK, r_evalK0, setLR, r_unp, r_mut, r_put, r_aug, r_for, r_iter, r_seqE, r_zip, r_yes, r_noPart, r_aPart, part'_int, r_sl, r_chain, r_chainB, wipR, List.set_cons_zero, List.set_cons_succ, outD_rt, outD_nx, eq_self, decide_true, decide_false, el, r0, h2, r1, h3, es]
end K28
namespace K28
open PySem PySem.Spec PyProof.Rows L2 L3
/-! ### entries and rows, typed -/
def oI : Option Int → D
  | none => .non
  | some i => .int i
def oS : Option Str → D
  | none => .non
  | some x => .str x
structure En where
  b : Int
  e : Option Int
  k : Int
  t : Str
structure Rw where
  b : Int
  e : Option Int
  t : Str
def En.d (x : En) : D := .tup [.int x.b, oI x.e, .int x.k, .str x.t]
def Rw.d (x : Rw) : D := .tup [.int x.b, oI x.e, .str x.t]
@[simp] theorem oI_n : oI none = .non := rfl
@[simp] theorem oI_s {i : Int} : oI (some i) = .int i := rfl
@[simp] theorem oS_n : oS none = .non := rfl
@[simp] theorem oS_s {i : Str} : oS (some i) = .str i := rfl
theorem plain_oI (o : Option Int) : plain (oI o) = true := by cases o <;> rfl
theorem plain_oS (o : Option Str) : plain (oS o) = true := by cases o <;> rfl
theorem plain_en (x : En) : plain x.d = true := by
  show (true && (plain (oI x.e) && (true && (true && true)))) = true
  rw [plain_oI]; rfl
theorem plain_rw (x : Rw) : plain x.d = true := by
  show (true && (plain (oI x.e) && (true && true))) = true
  rw [plain_oI]; rfl
theorem plainL_map {α : Type} (f : α → D) (h : ∀ a, plain (f a) = true) : ∀ l : List α, plainL (l.map f) = true
  | [] => rfl
  | a :: l => by show (plain (f a) && plainL (l.map f)) = true; rw [h a, plainL_map f h l]; rfl
theorem eq00 : eqD (.lst []) (.lst []) = some true := nr rfl
theorem lst0 : lstD [] = some (.lst []) := rfl
theorem eq_oS (o : Option Str) (p : Option Str) : eqD (oS o) (oS p) = some (decide (o = p)) := by
  cases o with
  | none => cases p with
    | none => simp only [oS_n, eq_nn, decide_true]
    | some y => simp only [oS_n, oS_s, eq_ns]; rfl
  | some x => cases p with
    | none => simp only [oS_n, oS_s, eq_sn]; rfl
    | some y => simp only [oS_s, eq_ss]; congr 1; simp
theorem eq_oSs (o : Option Str) (y : Str) : eqD (oS o) (.str y) = some (decide (o = some y)) := eq_oS o (some y)
/-! ### held -/
def En.has (x : En) (day : Int) : Bool := decide (x.b ≤ day) && (match x.e with | none => true | some e => decide (day < e))
def heldL (es : List En) (day known : Int) : List En := es.filter fun x => decide (x.k ≤ known) && x.has day
def held (es : List En) (day known : Int) : Option Str := ((heldL es day known).getLast?).map (·.t)
theorem hasDay_run (x : En) (day : Int) (n : Nat) : g_has_day [x.d, .int day] n = some (.bl (x.has day), n) := by
  unfold En.d En.has
  cases h : x.e with
  | none =>
    by_cases h1 : x.b ≤ day
    · simp only [g_has_day, f_has_day, r_runD, List.map_cons, List.map_nil, List.replicate, List.cons_append, List.nil_append, List.append_nil, r_seq, r_if, r_asB, r_un, r_bin, r_name, at_0, at_s, om_some, om_none, ob_some, ob_none, i_t, i_f, i_tt, i_ff, Bool.false_eq_true, asB'_bl, r_orT, r_andT, r_notT, r_orE, r_andE, r_notE, r_ifE, Bool.not_true, Bool.not_false, r_nil, seq'_nx, seq'_rt, seq'_ct, seq'_bk, r_ret, r_set, r_lc, r_mapA, r_nilA, r_consA, r_call, r_c, r_par, r_evalK, r_evalK0, setLR, r_unp, r_mut, r_put, r_aug, r_for, r_iter, r_seqE, r_zip, r_yes, r_noPart, r_aPart, part'_int, r_sl, r_chain, r_chainB, wipR, List.set_cons_zero, List.set_cons_succ, outD_rt, outD_nx, eq_self, decide_true, decide_false, ltC_i, leC_i, gtC_i, geC_i, iadd_i, isub_i, subD_i, addD_i, negD_i, absD_i, intD_i, min2_i, isN_non, isN_i, isN_s, isN_b, isN_t, isNN_non, isNN_i, isNN_s, isNN_b, isNN_t, lenD_l, lenD_t, lenD_r, tupleD_l, tupleD_t, listD_l, listD_t, revD_l, revD_t, iterD_l, iterD_t, iterD_r, seqD_l, seqD_t, seqD_r, ixL1, ixT1, ix20, ix21, ix30, ix31, ix32, ix40, ix41, ix42, ix43, isi_t, isi_tn, isi_tb, isi_ti, isi_ts, isi_tl, isi_bn, isi_bb, isi_bi, isi_bs, isi_bt, isi_in, isi_ib, isi_ii, isi_is, isi_it, isi_sn, isi_sb, isi_si, isi_ss, isi_st, eq_ii, eq_ss, eq_nn, eq_sn, eq_ns, eq_bb, toB_some', oI_n, h1, Bool.true_and]
    · simp only [g_has_day, f_has_day, r_runD, List.map_cons, List.map_nil, List.replicate, List.cons_append, List.nil_append, List.append_nil, r_seq, r_if, r_asB, r_un, r_bin, r_name, at_0, at_s, om_some, om_none, ob_some, ob_none, i_t, i_f, i_tt, i_ff, Bool.false_eq_true, asB'_bl, r_orT, r_andT, r_notT, r_orE, r_andE, r_notE, r_ifE, Bool.not_true, Bool.not_false, r_nil, seq'_nx, seq'_rt, seq'_ct, seq'_bk, r_ret, r_set, r_lc, r_mapA, r_nilA, r_consA, r_call, r_c, r_par, r_evalK, r_evalK0, setLR, r_unp, r_mut, r_put, r_aug, r_for, r_iter, r_seqE, r_zip, r_yes, r_noPart, r_aPart, part'_int, r_sl, r_chain, r_chainB, wipR, List.set_cons_zero, List.set_cons_succ, outD_rt, outD_nx, eq_self, decide_true, decide_false, ltC_i, leC_i, gtC_i, geC_i, iadd_i, isub_i, subD_i, addD_i, negD_i, absD_i, intD_i, min2_i, isN_non, isN_i, isN_s, isN_b, isN_t, isNN_non, isNN_i, isNN_s, isNN_b, isNN_t, lenD_l, lenD_t, lenD_r, tupleD_l, tupleD_t, listD_l, listD_t, revD_l, revD_t, iterD_l, iterD_t, iterD_r, seqD_l, seqD_t, seqD_r, ixL1, ixT1, ix20, ix21, ix30, ix31, ix32, ix40, ix41, ix42, ix43, isi_t, isi_tn, isi_tb, isi_ti, isi_ts, isi_tl, isi_bn, isi_bb, isi_bi, isi_bs, isi_bt, isi_in, isi_ib, isi_ii, isi_is, isi_it, isi_sn, isi_sb, isi_si, isi_ss, isi_st, eq_ii, eq_ss, eq_nn, eq_sn, eq_ns, eq_bb, toB_some', oI_n, h1, Bool.false_and]
  | some e =>
    by_cases h1 : x.b ≤ day
    · simp only [g_has_day, f_has_day, r_runD, List.map_cons, List.map_nil, List.replicate, List.cons_append, List.nil_append, List.append_nil, r_seq, r_if, r_asB, r_un, r_bin, r_name, at_0, at_s, om_some, om_none, ob_some, ob_none, i_t, i_f, i_tt, i_ff, Bool.false_eq_true, asB'_bl, r_orT, r_andT, r_notT, r_orE, r_andE, r_notE, r_ifE, Bool.not_true, Bool.not_false, r_nil, seq'_nx, seq'_rt, seq'_ct, seq'_bk, r_ret, r_set, r_lc, r_mapA, r_nilA, r_consA, r_call, r_c, r_par, r_evalK, r_evalK0, setLR, r_unp, r_mut, r_put, r_aug, r_for, r_iter, r_seqE, r_zip, r_yes, r_noPart, r_aPart, part'_int, r_sl, r_chain, r_chainB, wipR, List.set_cons_zero, List.set_cons_succ, outD_rt, outD_nx, eq_self, decide_true, decide_false, ltC_i, leC_i, gtC_i, geC_i, iadd_i, isub_i, subD_i, addD_i, negD_i, absD_i, intD_i, min2_i, isN_non, isN_i, isN_s, isN_b, isN_t, isNN_non, isNN_i, isNN_s, isNN_b, isNN_t, lenD_l, lenD_t, lenD_r, tupleD_l, tupleD_t, listD_l, listD_t, revD_l, revD_t, iterD_l, iterD_t, iterD_r, seqD_l, seqD_t, seqD_r, ixL1, ixT1, ix20, ix21, ix30, ix31, ix32, ix40, ix41, ix42, ix43, isi_t, isi_tn, isi_tb, isi_ti, isi_ts, isi_tl, isi_bn, isi_bb, isi_bi, isi_bs, isi_bt, isi_in, isi_ib, isi_ii, isi_is, isi_it, isi_sn, isi_sb, isi_si, isi_ss, isi_st, eq_ii, eq_ss, eq_nn, eq_sn, eq_ns, eq_bb, toB_some', oI_s, h1, Bool.true_and]
    · simp only [g_has_day, f_has_day, r_runD, List.map_cons, List.map_nil, List.replicate, List.cons_append, List.nil_append, List.append_nil, r_seq, r_if, r_asB, r_un, r_bin, r_name, at_0, at_s, om_some, om_none, ob_some, ob_none, i_t, i_f, i_tt, i_ff, Bool.false_eq_true, asB'_bl, r_orT, r_andT, r_notT, r_orE, r_andE, r_notE, r_ifE, Bool.not_true, Bool.not_false, r_nil, seq'_nx, seq'_rt, seq'_ct, seq'_bk, r_ret, r_set, r_lc, r_mapA, r_nilA, r_consA, r_call, r_c, r_par, r_evalK, r_evalK0, setLR, r_unp, r_mut, r_put, r_aug, r_for, r_iter, r_seqE, r_zip, r_yes, r_noPart, r_aPart, part'_int, r_sl, r_chain, r_chainB, wipR, List.set_cons_zero, List.set_cons_succ, outD_rt, outD_nx, eq_self, decide_true, decide_false, ltC_i, leC_i, gtC_i, geC_i, iadd_i, isub_i, subD_i, addD_i, negD_i, absD_i, intD_i, min2_i, isN_non, isN_i, isN_s, isN_b, isN_t, isNN_non, isNN_i, isNN_s, isNN_b, isNN_t, lenD_l, lenD_t, lenD_r, tupleD_l, tupleD_t, listD_l, listD_t, revD_l, revD_t, iterD_l, iterD_t, iterD_r, seqD_l, seqD_t, seqD_r, ixL1, ixT1, ix20, ix21, ix30, ix31, ix32, ix40, ix41, ix42, ix43, isi_t, isi_tn, isi_tb, isi_ti, isi_ts, isi_tl, isi_bn, isi_bb, isi_bi, isi_bs, isi_bt, isi_in, isi_ib, isi_ii, isi_is, isi_it, isi_sn, isi_sb, isi_si, isi_ss, isi_st, eq_ii, eq_ss, eq_nn, eq_sn, eq_ns, eq_bb, toB_some', oI_s, h1, Bool.false_and]
theorem held_run (es : List En) (day known : Int) (n : Nat) : g_held [.tup (es.map En.d), .int day, .int known] n = some (oS (held es day known), n) := by
  have h1 := lcGo_map (b := bindN 4) (t := andT (asB (L3.bin (L3.bin (nameE 4) (cE (.int 2)) ixD) (nameE 2) leC)) (asB (callE (consA (nameE 4) (consA (nameE 1) nilA)) (g_has_day)))) (el := nameE 4)
    (ρ := [some (.tup (es.map En.d)), some (.int day), some (.int known), none, none]) (n := n) En.d (fun x => [some (.tup (es.map En.d)), some (.int day), some (.int known), none, some x.d]) (fun x => decide (x.k ≤ known) && x.has day) En.d es (fun _ _ => rfl)
    (fun x _ => by
      have e : ixD x.d (.int 2) = some (.int x.k) := nr rfl
      by_cases hk : x.k ≤ known
      · simp only [r_runD, List.map_cons, List.map_nil, List.replicate, List.cons_append, List.nil_append, List.append_nil, r_seq, r_if, r_asB, r_un, r_bin, r_name, at_0, at_s, om_some, om_none, ob_some, ob_none, i_t, i_f, i_tt, i_ff, Bool.false_eq_true, asB'_bl, r_orT, r_andT, r_notT, r_orE, r_andE, r_notE, r_ifE, Bool.not_true, Bool.not_false, r_nil, seq'_nx, seq'_rt, seq'_ct, seq'_bk, r_ret, r_set, r_lc, r_mapA, r_nilA, r_consA, r_call, r_c, r_par, r_evalK, r_evalK0, setLR, r_unp, r_mut, r_put, r_aug, r_for, r_iter, r_seqE, r_zip, r_yes, r_noPart, r_aPart, part'_int, r_sl, r_chain, r_chainB, wipR, List.set_cons_zero, List.set_cons_succ, outD_rt, outD_nx, eq_self, decide_true, decide_false, ltC_i, leC_i, gtC_i, geC_i, iadd_i, isub_i, subD_i, addD_i, negD_i, absD_i, intD_i, min2_i, isN_non, isN_i, isN_s, isN_b, isN_t, isNN_non, isNN_i, isNN_s, isNN_b, isNN_t, lenD_l, lenD_t, lenD_r, tupleD_l, tupleD_t, listD_l, listD_t, revD_l, revD_t, iterD_l, iterD_t, iterD_r, seqD_l, seqD_t, seqD_r, ixL1, ixT1, ix20, ix21, ix30, ix31, ix32, ix40, ix41, ix42, ix43, isi_t, isi_tn, isi_tb, isi_ti, isi_ts, isi_tl, isi_bn, isi_bb, isi_bi, isi_bs, isi_bt, isi_in, isi_ib, isi_ii, isi_is, isi_it, isi_sn, isi_sb, isi_si, isi_ss, isi_st, eq_ii, eq_ss, eq_nn, eq_sn, eq_ns, eq_bb, toB_some', e, hasDay_run, hk, Bool.true_and]
      · simp only [r_runD, List.map_cons, List.map_nil, List.replicate, List.cons_append, List.nil_append, List.append_nil, r_seq, r_if, r_asB, r_un, r_bin, r_name, at_0, at_s, om_some, om_none, ob_some, ob_none, i_t, i_f, i_tt, i_ff, Bool.false_eq_true, asB'_bl, r_orT, r_andT, r_notT, r_orE, r_andE, r_notE, r_ifE, Bool.not_true, Bool.not_false, r_nil, seq'_nx, seq'_rt, seq'_ct, seq'_bk, r_ret, r_set, r_lc, r_mapA, r_nilA, r_consA, r_call, r_c, r_par, r_evalK, r_evalK0, setLR, r_unp, r_mut, r_put, r_aug, r_for, r_iter, r_seqE, r_zip, r_yes, r_noPart, r_aPart, part'_int, r_sl, r_chain, r_chainB, wipR, List.set_cons_zero, List.set_cons_succ, outD_rt, outD_nx, eq_self, decide_true, decide_false, ltC_i, leC_i, gtC_i, geC_i, iadd_i, isub_i, subD_i, addD_i, negD_i, absD_i, intD_i, min2_i, isN_non, isN_i, isN_s, isN_b, isN_t, isNN_non, isNN_i, isNN_s, isNN_b, isNN_t, lenD_l, lenD_t, lenD_r, tupleD_l, tupleD_t, listD_l, listD_t, revD_l, revD_t, iterD_l, iterD_t, iterD_r, seqD_l, seqD_t, seqD_r, ixL1, ixT1, ix20, ix21, ix30, ix31, ix32, ix40, ix41, ix42, ix43, isi_t, isi_tn, isi_tb, isi_ti, isi_ts, isi_tl, isi_bn, isi_bb, isi_bi, isi_bs, isi_bt, isi_in, isi_ib, isi_ii, isi_is, isi_it, isi_sn, isi_sb, isi_si, isi_ss, isi_st, eq_ii, eq_ss, eq_nn, eq_sn, eq_ns, eq_bb, toB_some', e, hasDay_run, hk, Bool.false_and])
    (fun x _ _ => by simp only [r_runD, List.map_cons, List.map_nil, List.replicate, List.cons_append, List.nil_append, List.append_nil, r_seq, r_if, r_asB, r_un, r_bin, r_name, at_0, at_s, om_some, om_none, ob_some, ob_none, i_t, i_f, i_tt, i_ff, Bool.false_eq_true, asB'_bl, r_orT, r_andT, r_notT, r_orE, r_andE, r_notE, r_ifE, Bool.not_true, Bool.not_false, r_nil, seq'_nx, seq'_rt, seq'_ct, seq'_bk, r_ret, r_set, r_lc, r_mapA, r_nilA, r_consA, r_call, r_c, r_par, r_evalK, r_evalK0, setLR, r_unp, r_mut, r_put, r_aug, r_for, r_iter, r_seqE, r_zip, r_yes, r_noPart, r_aPart, part'_int, r_sl, r_chain, r_chainB, wipR, List.set_cons_zero, List.set_cons_succ, outD_rt, outD_nx, eq_self, decide_true, decide_false])
  have h2 := eq_nil (plainL_map En.d plain_en (heldL es day known))
  have h3 : ((heldL es day known).map En.d).getLast? = (heldL es day known).getLast?.map En.d := List.getLast?_map
  have h0 := lst0
  change lcGo _ _ _ _ _ _ = some ((heldL es day known).map En.d, n) at h1
  unfold held
  cases hl : (heldL es day known).getLast? with
  | none =>
    have : heldL es day known = [] := List.getLast?_eq_none_iff.mp hl
    rw [this] at h1 h2
    simp only [g_held, f_held, r_runD, List.map_cons, List.map_nil, List.replicate, List.cons_append, List.nil_append, List.append_nil, r_seq, r_if, r_asB, r_un, r_bin, r_name, at_0, at_s, om_some, om_none, ob_some, ob_none, i_t, i_f, i_tt, i_ff, Bool.false_eq_true, asB'_bl, r_orT, r_andT, r_notT, r_orE, r_andE, r_notE, r_ifE, Bool.not_true, Bool.not_false, r_nil, seq'_nx, seq'_rt, seq'_ct, seq'_bk, r_ret, r_set, r_lc, r_mapA, r_nilA, r_consA, r_call, r_c, r_par, r_evalK, r_evalK0, setLR, r_unp, r_mut, r_put, r_aug, r_for, r_iter, r_seqE, r_zip, r_yes, r_noPart, r_aPart, part'_int, r_sl, r_chain, r_chainB, wipR, List.set_cons_zero, List.set_cons_succ, outD_rt, outD_nx, eq_self, decide_true, decide_false, ltC_i, leC_i, gtC_i, geC_i, iadd_i, isub_i, subD_i, addD_i, negD_i, absD_i, intD_i, min2_i, isN_non, isN_i, isN_s, isN_b, isN_t, isNN_non, isNN_i, isNN_s, isNN_b, isNN_t, lenD_l, lenD_t, lenD_r, tupleD_l, tupleD_t, listD_l, listD_t, revD_l, revD_t, iterD_l, iterD_t, iterD_r, seqD_l, seqD_t, seqD_r, ixL1, ixT1, ix20, ix21, ix30, ix31, ix32, ix40, ix41, ix42, ix43, isi_t, isi_tn, isi_tb, isi_ti, isi_ts, isi_tl, isi_bn, isi_bb, isi_bi, isi_bs, isi_bt, isi_in, isi_ib, isi_ii, isi_is, isi_it, isi_sn, isi_sb, isi_si, isi_ss, isi_st, eq_ii, eq_ss, eq_nn, eq_sn, eq_ns, eq_bb, toB_some', h1, h0, eq00, oS_n, om_none]
  | some x =>
    have hne : (heldL es day known) ≠ [] := fun z => by rw [z] at hl; cases hl
    have : ((heldL es day known).map En.d).isEmpty = false := by cases hh : heldL es day known with
      | nil => exact absurd hh hne
      | cons a l => rfl
    rw [this] at h2
    rw [hl] at h3
    have e : ixD x.d (.int 3) = some (.str x.t) := nr rfl
    simp only [g_held, f_held, r_runD, List.map_cons, List.map_nil, List.replicate, List.cons_append, List.nil_append, List.append_nil, r_seq, r_if, r_asB, r_un, r_bin, r_name, at_0, at_s, om_some, om_none, ob_some, ob_none, i_t, i_f, i_tt, i_ff, Bool.false_eq_true, asB'_bl, r_orT, r_andT, r_notT, r_orE, r_andE, r_notE, r_ifE, Bool.not_true, Bool.not_false, r_nil, seq'_nx, seq'_rt, seq'_ct, seq'_bk, r_ret, r_set, r_lc, r_mapA, r_nilA, r_consA, r_call, r_c, r_par, r_evalK, r_evalK0, setLR, r_unp, r_mut, r_put, r_aug, r_for, r_iter, r_seqE, r_zip, r_yes, r_noPart, r_aPart, part'_int, r_sl, r_chain, r_chainB, wipR, List.set_cons_zero, List.set_cons_succ, outD_rt, outD_nx, eq_self, decide_true, decide_false, ltC_i, leC_i, gtC_i, geC_i, iadd_i, isub_i, subD_i, addD_i, negD_i, absD_i, intD_i, min2_i, isN_non, isN_i, isN_s, isN_b, isN_t, isNN_non, isNN_i, isNN_s, isNN_b, isNN_t, lenD_l, lenD_t, lenD_r, tupleD_l, tupleD_t, listD_l, listD_t, revD_l, revD_t, iterD_l, iterD_t, iterD_r, seqD_l, seqD_t, seqD_r, ixL1, ixT1, ix20, ix21, ix30, ix31, ix32, ix40, ix41, ix42, ix43, isi_t, isi_tn, isi_tb, isi_ti, isi_ts, isi_tl, isi_bn, isi_bb, isi_bi, isi_bs, isi_bt, isi_in, isi_ib, isi_ii, isi_is, isi_it, isi_sn, isi_sb, isi_si, isi_ss, isi_st, eq_ii, eq_ss, eq_nn, eq_sn, eq_ns, eq_bb, toB_some', h1, h0, h2, h3, e, oS_s]
theorem lheld_run (es : List En) (day known : Int) (n : Nat) : g_law_held [.tup (es.map En.d), .int day, .int known] n = some (oS (held es day known), n) := by
  have h1 := lcGo_map (b := bindN 4) (t := (andT (asB (L3.bin (L3.bin (nameE 4) (cE (.int 2)) ixD) (nameE 2) leC)) (andT (asB (L3.bin (L3.bin (nameE 4) (cE (.int 0)) ixD) (nameE 1) leC)) (orT (asB (L3.bin (L3.bin (nameE 4) (cE (.int 1)) ixD) (cE .non) isN)) (asB (L3.bin (nameE 1) (L3.bin (nameE 4) (cE (.int 1)) ixD) ltC)))))) (el := L3.bin (nameE 4) (cE (.int 3)) ixD)
    (ρ := [some (.tup (es.map En.d)), some (.int day), some (.int known), none, none]) (n := n) En.d (fun x => [some (.tup (es.map En.d)), some (.int day), some (.int known), none, some x.d]) (fun x => decide (x.k ≤ known) && x.has day) (fun x => .str x.t) es (fun _ _ => rfl)
    (fun x _ => by
      unfold En.d En.has
      by_cases hk : x.k ≤ known
      · by_cases hb : x.b ≤ day
        · cases he : x.e with
          | none => simp only [r_runD, List.map_cons, List.map_nil, List.replicate, List.cons_append, List.nil_append, List.append_nil, r_seq, r_if, r_asB, r_un, r_bin, r_name, at_0, at_s, om_some, om_none, ob_some, ob_none, i_t, i_f, i_tt, i_ff, Bool.false_eq_true, asB'_bl, r_orT, r_andT, r_notT, r_orE, r_andE, r_notE, r_ifE, Bool.not_true, Bool.not_false, r_nil, seq'_nx, seq'_rt, seq'_ct, seq'_bk, r_ret, r_set, r_lc, r_mapA, r_nilA, r_consA, r_call, r_c, r_par, r_evalK, r_evalK0, setLR, r_unp, r_mut, r_put, r_aug, r_for, r_iter, r_seqE, r_zip, r_yes, r_noPart, r_aPart, part'_int, r_sl, r_chain, r_chainB, wipR, List.set_cons_zero, List.set_cons_succ, outD_rt, outD_nx, eq_self, decide_true, decide_false, ltC_i, leC_i, gtC_i, geC_i, iadd_i, isub_i, subD_i, addD_i, negD_i, absD_i, intD_i, min2_i, isN_non, isN_i, isN_s, isN_b, isN_t, isNN_non, isNN_i, isNN_s, isNN_b, isNN_t, lenD_l, lenD_t, lenD_r, tupleD_l, tupleD_t, listD_l, listD_t, revD_l, revD_t, iterD_l, iterD_t, iterD_r, seqD_l, seqD_t, seqD_r, ixL1, ixT1, ix20, ix21, ix30, ix31, ix32, ix40, ix41, ix42, ix43, isi_t, isi_tn, isi_tb, isi_ti, isi_ts, isi_tl, isi_bn, isi_bb, isi_bi, isi_bs, isi_bt, isi_in, isi_ib, isi_ii, isi_is, isi_it, isi_sn, isi_sb, isi_si, isi_ss, isi_st, eq_ii, eq_ss, eq_nn, eq_sn, eq_ns, eq_bb, toB_some', oI_n, hk, hb, Bool.true_and]
          | some e => simp only [r_runD, List.map_cons, List.map_nil, List.replicate, List.cons_append, List.nil_append, List.append_nil, r_seq, r_if, r_asB, r_un, r_bin, r_name, at_0, at_s, om_some, om_none, ob_some, ob_none, i_t, i_f, i_tt, i_ff, Bool.false_eq_true, asB'_bl, r_orT, r_andT, r_notT, r_orE, r_andE, r_notE, r_ifE, Bool.not_true, Bool.not_false, r_nil, seq'_nx, seq'_rt, seq'_ct, seq'_bk, r_ret, r_set, r_lc, r_mapA, r_nilA, r_consA, r_call, r_c, r_par, r_evalK, r_evalK0, setLR, r_unp, r_mut, r_put, r_aug, r_for, r_iter, r_seqE, r_zip, r_yes, r_noPart, r_aPart, part'_int, r_sl, r_chain, r_chainB, wipR, List.set_cons_zero, List.set_cons_succ, outD_rt, outD_nx, eq_self, decide_true, decide_false, ltC_i, leC_i, gtC_i, geC_i, iadd_i, isub_i, subD_i, addD_i, negD_i, absD_i, intD_i, min2_i, isN_non, isN_i, isN_s, isN_b, isN_t, isNN_non, isNN_i, isNN_s, isNN_b, isNN_t, lenD_l, lenD_t, lenD_r, tupleD_l, tupleD_t, listD_l, listD_t, revD_l, revD_t, iterD_l, iterD_t, iterD_r, seqD_l, seqD_t, seqD_r, ixL1, ixT1, ix20, ix21, ix30, ix31, ix32, ix40, ix41, ix42, ix43, isi_t, isi_tn, isi_tb, isi_ti, isi_ts, isi_tl, isi_bn, isi_bb, isi_bi, isi_bs, isi_bt, isi_in, isi_ib, isi_ii, isi_is, isi_it, isi_sn, isi_sb, isi_si, isi_ss, isi_st, eq_ii, eq_ss, eq_nn, eq_sn, eq_ns, eq_bb, toB_some', oI_s, hk, hb, Bool.true_and]
        · simp only [r_runD, List.map_cons, List.map_nil, List.replicate, List.cons_append, List.nil_append, List.append_nil, r_seq, r_if, r_asB, r_un, r_bin, r_name, at_0, at_s, om_some, om_none, ob_some, ob_none, i_t, i_f, i_tt, i_ff, Bool.false_eq_true, asB'_bl, r_orT, r_andT, r_notT, r_orE, r_andE, r_notE, r_ifE, Bool.not_true, Bool.not_false, r_nil, seq'_nx, seq'_rt, seq'_ct, seq'_bk, r_ret, r_set, r_lc, r_mapA, r_nilA, r_consA, r_call, r_c, r_par, r_evalK, r_evalK0, setLR, r_unp, r_mut, r_put, r_aug, r_for, r_iter, r_seqE, r_zip, r_yes, r_noPart, r_aPart, part'_int, r_sl, r_chain, r_chainB, wipR, List.set_cons_zero, List.set_cons_succ, outD_rt, outD_nx, eq_self, decide_true, decide_false, ltC_i, leC_i, gtC_i, geC_i, iadd_i, isub_i, subD_i, addD_i, negD_i, absD_i, intD_i, min2_i, isN_non, isN_i, isN_s, isN_b, isN_t, isNN_non, isNN_i, isNN_s, isNN_b, isNN_t, lenD_l, lenD_t, lenD_r, tupleD_l, tupleD_t, listD_l, listD_t, revD_l, revD_t, iterD_l, iterD_t, iterD_r, seqD_l, seqD_t, seqD_r, ixL1, ixT1, ix20, ix21, ix30, ix31, ix32, ix40, ix41, ix42, ix43, isi_t, isi_tn, isi_tb, isi_ti, isi_ts, isi_tl, isi_bn, isi_bb, isi_bi, isi_bs, isi_bt, isi_in, isi_ib, isi_ii, isi_is, isi_it, isi_sn, isi_sb, isi_si, isi_ss, isi_st, eq_ii, eq_ss, eq_nn, eq_sn, eq_ns, eq_bb, toB_some', hk, hb, Bool.true_and, Bool.false_and]
      · simp only [r_runD, List.map_cons, List.map_nil, List.replicate, List.cons_append, List.nil_append, List.append_nil, r_seq, r_if, r_asB, r_un, r_bin, r_name, at_0, at_s, om_some, om_none, ob_some, ob_none, i_t, i_f, i_tt, i_ff, Bool.false_eq_true, asB'_bl, r_orT, r_andT, r_notT, r_orE, r_andE, r_notE, r_ifE, Bool.not_true, Bool.not_false, r_nil, seq'_nx, seq'_rt, seq'_ct, seq'_bk, r_ret, r_set, r_lc, r_mapA, r_nilA, r_consA, r_call, r_c, r_par, r_evalK, r_evalK0, setLR, r_unp, r_mut, r_put, r_aug, r_for, r_iter, r_seqE, r_zip, r_yes, r_noPart, r_aPart, part'_int, r_sl, r_chain, r_chainB, wipR, List.set_cons_zero, List.set_cons_succ, outD_rt, outD_nx, eq_self, decide_true, decide_false, ltC_i, leC_i, gtC_i, geC_i, iadd_i, isub_i, subD_i, addD_i, negD_i, absD_i, intD_i, min2_i, isN_non, isN_i, isN_s, isN_b, isN_t, isNN_non, isNN_i, isNN_s, isNN_b, isNN_t, lenD_l, lenD_t, lenD_r, tupleD_l, tupleD_t, listD_l, listD_t, revD_l, revD_t, iterD_l, iterD_t, iterD_r, seqD_l, seqD_t, seqD_r, ixL1, ixT1, ix20, ix21, ix30, ix31, ix32, ix40, ix41, ix42, ix43, isi_t, isi_tn, isi_tb, isi_ti, isi_ts, isi_tl, isi_bn, isi_bb, isi_bi, isi_bs, isi_bt, isi_in, isi_ib, isi_ii, isi_is, isi_it, isi_sn, isi_sb, isi_si, isi_ss, isi_st, eq_ii, eq_ss, eq_nn, eq_sn, eq_ns, eq_bb, toB_some', hk, Bool.false_and])
    (fun x _ _ => by
      have e : ixD x.d (.int 3) = some (.str x.t) := nr rfl
      simp only [r_runD, List.map_cons, List.map_nil, List.replicate, List.cons_append, List.nil_append, List.append_nil, r_seq, r_if, r_asB, r_un, r_bin, r_name, at_0, at_s, om_some, om_none, ob_some, ob_none, i_t, i_f, i_tt, i_ff, Bool.false_eq_true, asB'_bl, r_orT, r_andT, r_notT, r_orE, r_andE, r_notE, r_ifE, Bool.not_true, Bool.not_false, r_nil, seq'_nx, seq'_rt, seq'_ct, seq'_bk, r_ret, r_set, r_lc, r_mapA, r_nilA, r_consA, r_call, r_c, r_par, r_evalK, r_evalK0, setLR, r_unp, r_mut, r_put, r_aug, r_for, r_iter, r_seqE, r_zip, r_yes, r_noPart, r_aPart, part'_int, r_sl, r_chain, r_chainB, wipR, List.set_cons_zero, List.set_cons_succ, outD_rt, outD_nx, eq_self, decide_true, decide_false, e])
  have h2 := eq_nil (plainL_map (fun x : En => D.str x.t) (fun _ => rfl) (heldL es day known))
  have h3 : ((heldL es day known).map (fun x : En => D.str x.t)).getLast? = (heldL es day known).getLast?.map (fun x : En => D.str x.t) := List.getLast?_map
  have h0 := lst0
  change lcGo _ _ _ _ _ _ = some ((heldL es day known).map (fun x : En => D.str x.t), n) at h1
  unfold held
  cases hl : (heldL es day known).getLast? with
  | none =>
    have : heldL es day known = [] := List.getLast?_eq_none_iff.mp hl
    rw [this] at h1 h2
    simp only [g_law_held, f_law_held, r_runD, List.map_cons, List.map_nil, List.replicate, List.cons_append, List.nil_append, List.append_nil, r_seq, r_if, r_asB, r_un, r_bin, r_name, at_0, at_s, om_some, om_none, ob_some, ob_none, i_t, i_f, i_tt, i_ff, Bool.false_eq_true, asB'_bl, r_orT, r_andT, r_notT, r_orE, r_andE, r_notE, r_ifE, Bool.not_true, Bool.not_false, r_nil, seq'_nx, seq'_rt, seq'_ct, seq'_bk, r_ret, r_set, r_lc, r_mapA, r_nilA, r_consA, r_call, r_c, r_par, r_evalK, r_evalK0, setLR, r_unp, r_mut, r_put, r_aug, r_for, r_iter, r_seqE, r_zip, r_yes, r_noPart, r_aPart, part'_int, r_sl, r_chain, r_chainB, wipR, List.set_cons_zero, List.set_cons_succ, outD_rt, outD_nx, eq_self, decide_true, decide_false, ltC_i, leC_i, gtC_i, geC_i, iadd_i, isub_i, subD_i, addD_i, negD_i, absD_i, intD_i, min2_i, isN_non, isN_i, isN_s, isN_b, isN_t, isNN_non, isNN_i, isNN_s, isNN_b, isNN_t, lenD_l, lenD_t, lenD_r, tupleD_l, tupleD_t, listD_l, listD_t, revD_l, revD_t, iterD_l, iterD_t, iterD_r, seqD_l, seqD_t, seqD_r, ixL1, ixT1, ix20, ix21, ix30, ix31, ix32, ix40, ix41, ix42, ix43, isi_t, isi_tn, isi_tb, isi_ti, isi_ts, isi_tl, isi_bn, isi_bb, isi_bi, isi_bs, isi_bt, isi_in, isi_ib, isi_ii, isi_is, isi_it, isi_sn, isi_sb, isi_si, isi_ss, isi_st, eq_ii, eq_ss, eq_nn, eq_sn, eq_ns, eq_bb, toB_some', h1, h0, eq00, oS_n, om_none]
  | some x =>
    have hne : (heldL es day known).map (fun x : En => D.str x.t) ≠ [] := fun z => by rw [List.map_eq_nil_iff.mp z] at hl; cases hl
    have : ((heldL es day known).map (fun x : En => D.str x.t)).isEmpty = false := by cases hh : heldL es day known with
      | nil => rw [hh] at hl; cases hl
      | cons a l => rfl
    rw [this] at h2
    rw [hl] at h3
    have h4 := ixLlast hne
    rw [h3] at h4
    simp only [g_law_held, f_law_held, r_runD, List.map_cons, List.map_nil, List.replicate, List.cons_append, List.nil_append, List.append_nil, r_seq, r_if, r_asB, r_un, r_bin, r_name, at_0, at_s, om_some, om_none, ob_some, ob_none, i_t, i_f, i_tt, i_ff, Bool.false_eq_true, asB'_bl, r_orT, r_andT, r_notT, r_orE, r_andE, r_notE, r_ifE, Bool.not_true, Bool.not_false, r_nil, seq'_nx, seq'_rt, seq'_ct, seq'_bk, r_ret, r_set, r_lc, r_mapA, r_nilA, r_consA, r_call, r_c, r_par, r_evalK, r_evalK0, setLR, r_unp, r_mut, r_put, r_aug, r_for, r_iter, r_seqE, r_zip, r_yes, r_noPart, r_aPart, part'_int, r_sl, r_chain, r_chainB, wipR, List.set_cons_zero, List.set_cons_succ, outD_rt, outD_nx, eq_self, decide_true, decide_false, ltC_i, leC_i, gtC_i, geC_i, iadd_i, isub_i, subD_i, addD_i, negD_i, absD_i, intD_i, min2_i, isN_non, isN_i, isN_s, isN_b, isN_t, isNN_non, isNN_i, isNN_s, isNN_b, isNN_t, lenD_l, lenD_t, lenD_r, tupleD_l, tupleD_t, listD_l, listD_t, revD_l, revD_t, iterD_l, iterD_t, iterD_r, seqD_l, seqD_t, seqD_r, ixL1, ixT1, ix20, ix21, ix30, ix31, ix32, ix40, ix41, ix42, ix43, isi_t, isi_tn, isi_tb, isi_ti, isi_ts, isi_tl, isi_bn, isi_bb, isi_bi, isi_bs, isi_bt, isi_in, isi_ib, isi_ii, isi_is, isi_it, isi_sn, isi_sb, isi_si, isi_ss, isi_st, eq_ii, eq_ss, eq_nn, eq_sn, eq_ns, eq_bb, toB_some', h1, h0, h2, h4, oS_s]
end K28
namespace K28
open PySem PySem.Spec PyProof.Rows L2 L3
theorem loopS_foldI {α β : Type} {n : Nat} {b : BF} {F : SF} {drop : List Nat} (enc : α → D) (R : β → Ro) (step : β → α → β) (I : Nat → β → Prop) : ∀ (l : List α) (i0 : Nat) (s : β), I i0 s →
    (∀ i a, l[i]? = some a → ∀ s, I (i0 + i) s → I (i0 + i + 1) (step s a) ∧ ∃ ρ1 ρ2, b (enc a) (R s) = some ρ1 ∧ (F ρ1 n = some (.nx ρ2, n) ∨ F ρ1 n = some (.ct ρ2, n)) ∧ wipR ρ2 drop = R (step s a)) →
    loopS b drop F (l.map enc) (R s) n = some (.nx (R (l.foldl step s)), n) ∧ I (i0 + l.length) (l.foldl step s)
  | [], i0, s, hI, _ => ⟨rfl, hI⟩
  | a :: l, i0, s, hI, h => by
    obtain ⟨i1, ρ1, ρ2, e1, e2, e3⟩ := h 0 a rfl s hI
    obtain ⟨e4, i2⟩ := loopS_foldI enc R step I l (i0 + 1) (step s a) i1 fun i x hx s hi => by
      have := h (i + 1) x (by simpa using hx) s (by rw [show i0 + (i + 1) = i0 + 1 + i by omega]; exact hi)
      rw [show i0 + (i + 1) + 1 = i0 + 1 + i + 1 by omega] at this
      exact this
    refine ⟨?_, by rw [List.length_cons, show i0 + (l.length + 1) = i0 + 1 + l.length by omega]; exact i2⟩
    show ((b (enc a) (R s)).map fun a => (a, n)).bind _ = _
    rw [e1]
    show (F ρ1 n).bind _ = _
    rcases e2 with e2 | e2 <;> (rw [e2]; show loopS b drop F (l.map enc) (wipR ρ2 drop) n = _; rw [e3]; exact e4)
theorem lst1 {x : D} : lstD [x] = some (.lst [x]) := nr rfl
theorem tup2 {x y : D} : tupD [x, y] = some (.tup [x, y]) := nr rfl
theorem tup3 {x y z : D} : tupD [x, y, z] = some (.tup [x, y, z]) := nr rfl
theorem tup4 {x y z t : D} : tupD [x, y, z, t] = some (.tup [x, y, z, t]) := nr rfl
theorem addD_l {xs ys : List D} (h : xs.length + ys.length ≤ 1000000) : addD (.lst xs) (.lst ys) = some (.lst (xs ++ ys)) := by
  show (if xs.length + ys.length ≤ sizeLine then some (D.lst (xs ++ ys)) else none) = _
  rw [if_pos (by rw [sizeLine_eq]; omega)]
theorem addD_t {xs ys : List D} (h : xs.length + ys.length ≤ 1000000) : addD (.tup xs) (.tup ys) = some (.tup (xs ++ ys)) := by
  show (if xs.length + ys.length ≤ sizeLine then some (D.tup (xs ++ ys)) else none).or _ = _
  rw [if_pos (by rw [sizeLine_eq]; omega)]; rfl
theorem extD_l {xs ys : List D} (h : xs.length + ys.length ≤ 1000000) : extD (.lst xs) (.lst ys) = some (.lst (xs ++ ys)) := by
  show (if xs.length + ys.length ≤ sizeLine then some (D.lst (xs ++ ys)) else none) = _
  rw [if_pos (by rw [sizeLine_eq]; omega)]
theorem appD_l {xs : List D} {y : D} (h : xs.length ≤ 1000000) : appD (.lst xs) y = some (.lst (xs ++ [y])) := by
  show (if xs.length < sizeLine then some (D.lst (xs ++ [y])) else none) = _
  rw [if_pos (by rw [sizeLine_eq]; omega)]
/-! ### cuts -/
def ct (known : Int) (x : En) : List Int := if x.k ≤ known then x.b :: x.e.toList else []
def cl (es : List En) (known : Int) : List Int := es.flatMap (ct known)
def cuts (es : List En) (known : Int) : List Int := sortU (cl es known)
theorem ct_len (known : Int) (x : En) : (ct known x).length ≤ 2 := by
  unfold ct; split
  · cases x.e <;> simp
  · simp
theorem cl_len (known : Int) : ∀ es : List En, (cl es known).length ≤ 2 * es.length
  | [] => by simp [cl]
  | x :: es => by
    have := cl_len known es
    have := ct_len known x
    unfold cl at *
    rw [List.flatMap_cons, List.length_append, List.length_cons]; omega
theorem foldl_cl (known : Int) : ∀ (es : List En) (a : List Int), es.foldl (fun cs x => cs ++ ct known x) a = a ++ cl es known
  | [], a => by simp [cl]
  | x :: es, a => by
    show es.foldl _ (a ++ ct known x) = _
    rw [foldl_cl known es]; simp [cl, List.flatMap_cons]
theorem cuts_run (es : List En) (known : Int) (n : Nat) (hl : es.length ≤ 30) : g_cuts_of [.tup (es.map En.d), .int known] n = some (.lst ((cuts es known).map .int), n) := by
  have h0 := lst0
  obtain ⟨h1, _⟩ := loopS_foldI (n := n) (b := bindT ((bindN 3) :: ((bindN 4) :: ((bindN 5) :: ((bindN 6) :: []))))) (drop := [3, 4, 5, 6])
    (F := (seqS (ifS (asB (L3.bin (nameE 5) (nameE 1) leC)) (seqS (mutS 2 (L3.bin (mapA (consA (nameE 3) nilA) lstD) (ifE (asB (L3.bin (nameE 4) (cE .non) isNN)) (mapA (consA (nameE 4) nilA) lstD) (mapA nilA lstD)) addD) extD) nilS) nilS) nilS))
    En.d (fun cs : List Int => [some (.tup (es.map En.d)), some (.int known), some (.lst (cs.map .int)), none, none, none, none]) (fun cs x => cs ++ ct known x) (fun i cs => cs.length ≤ 2 * i) es 0 [] (Nat.zero_le _)
    (fun i x hx cs hI => by
      have hi : i < es.length := (List.getElem?_eq_some_iff.mp hx).1
      have := ct_len known x
      refine ⟨by rw [List.length_append]; omega, _, [some (.tup (es.map En.d)), some (.int known), some (.lst ((cs ++ ct known x).map .int)), some (.int x.b), some (oI x.e), some (.int x.k), some (.str x.t)], rfl, .inl ?_, rfl⟩
      by_cases hk : x.k ≤ known
      · cases he : x.e with
        | none =>
          have e1 : addD (.lst [.int x.b]) (.lst []) = some (.lst [.int x.b]) := nr rfl
          have e2 : extD (.lst (cs.map .int)) (.lst [.int x.b]) = some (.lst ((cs ++ ct known x).map .int)) := by
            rw [extD_l (by simp; omega)]; simp [ct, hk, he]
          simp only [r_runD, List.map_cons, List.map_nil, List.replicate, List.cons_append, List.nil_append, List.append_nil, r_seq, r_if, r_asB, r_un, r_bin, r_name, at_0, at_s, om_some, om_none, ob_some, ob_none, i_t, i_f, i_tt, i_ff, Bool.false_eq_true, asB'_bl, r_orT, r_andT, r_notT, r_orE, r_andE, r_notE, r_ifE, Bool.not_true, Bool.not_false, r_nil, seq'_nx, seq'_rt, seq'_ct, seq'_bk, r_ret, r_set, r_lc, r_mapA, r_nilA, r_consA, r_call, r_c, r_par, r_evalK, r_evalK0, setLR, r_unp, r_mut, r_put, r_aug, r_for, r_iter, r_seqE, r_zip, r_yes, r_noPart, r_aPart, part'_int, r_sl, r_chain, r_chainB, wipR, List.set_cons_zero, List.set_cons_succ, outD_rt, outD_nx, eq_self, decide_true, decide_false, ltC_i, leC_i, gtC_i, geC_i, iadd_i, isub_i, subD_i, addD_i, negD_i, absD_i, intD_i, min2_i, isN_non, isN_i, isN_s, isN_b, isN_t, isNN_non, isNN_i, isNN_s, isNN_b, isNN_t, lenD_l, lenD_t, lenD_r, tupleD_l, tupleD_t, listD_l, listD_t, revD_l, revD_t, iterD_l, iterD_t, iterD_r, seqD_l, seqD_t, seqD_r, ixL1, ixT1, ix20, ix21, ix30, ix31, ix32, ix40, ix41, ix42, ix43, isi_t, isi_tn, isi_tb, isi_ti, isi_ts, isi_tl, isi_bn, isi_bb, isi_bi, isi_bs, isi_bt, isi_in, isi_ib, isi_ii, isi_is, isi_it, isi_sn, isi_sb, isi_si, isi_ss, isi_st, eq_ii, eq_ss, eq_nn, eq_sn, eq_ns, eq_bb, toB_some', he, oI_n, hk, lst1, h0, e1, e2]
        | some e =>
          have e1 : addD (.lst [.int x.b]) (.lst [.int e]) = some (.lst [.int x.b, .int e]) := nr rfl
          have e2 : extD (.lst (cs.map .int)) (.lst [.int x.b, .int e]) = some (.lst ((cs ++ ct known x).map .int)) := by
            rw [extD_l (by simp; omega)]; simp [ct, hk, he]
          simp only [r_runD, List.map_cons, List.map_nil, List.replicate, List.cons_append, List.nil_append, List.append_nil, r_seq, r_if, r_asB, r_un, r_bin, r_name, at_0, at_s, om_some, om_none, ob_some, ob_none, i_t, i_f, i_tt, i_ff, Bool.false_eq_true, asB'_bl, r_orT, r_andT, r_notT, r_orE, r_andE, r_notE, r_ifE, Bool.not_true, Bool.not_false, r_nil, seq'_nx, seq'_rt, seq'_ct, seq'_bk, r_ret, r_set, r_lc, r_mapA, r_nilA, r_consA, r_call, r_c, r_par, r_evalK, r_evalK0, setLR, r_unp, r_mut, r_put, r_aug, r_for, r_iter, r_seqE, r_zip, r_yes, r_noPart, r_aPart, part'_int, r_sl, r_chain, r_chainB, wipR, List.set_cons_zero, List.set_cons_succ, outD_rt, outD_nx, eq_self, decide_true, decide_false, ltC_i, leC_i, gtC_i, geC_i, iadd_i, isub_i, subD_i, addD_i, negD_i, absD_i, intD_i, min2_i, isN_non, isN_i, isN_s, isN_b, isN_t, isNN_non, isNN_i, isNN_s, isNN_b, isNN_t, lenD_l, lenD_t, lenD_r, tupleD_l, tupleD_t, listD_l, listD_t, revD_l, revD_t, iterD_l, iterD_t, iterD_r, seqD_l, seqD_t, seqD_r, ixL1, ixT1, ix20, ix21, ix30, ix31, ix32, ix40, ix41, ix42, ix43, isi_t, isi_tn, isi_tb, isi_ti, isi_ts, isi_tl, isi_bn, isi_bb, isi_bi, isi_bs, isi_bt, isi_in, isi_ib, isi_ii, isi_is, isi_it, isi_sn, isi_sb, isi_si, isi_ss, isi_st, eq_ii, eq_ss, eq_nn, eq_sn, eq_ns, eq_bb, toB_some', he, oI_s, hk, lst1, h0, e1, e2]
      · have e2 : ct known x = [] := by simp [ct, hk]
        simp only [r_runD, List.map_cons, List.map_nil, List.replicate, List.cons_append, List.nil_append, List.append_nil, r_seq, r_if, r_asB, r_un, r_bin, r_name, at_0, at_s, om_some, om_none, ob_some, ob_none, i_t, i_f, i_tt, i_ff, Bool.false_eq_true, asB'_bl, r_orT, r_andT, r_notT, r_orE, r_andE, r_notE, r_ifE, Bool.not_true, Bool.not_false, r_nil, seq'_nx, seq'_rt, seq'_ct, seq'_bk, r_ret, r_set, r_lc, r_mapA, r_nilA, r_consA, r_call, r_c, r_par, r_evalK, r_evalK0, setLR, r_unp, r_mut, r_put, r_aug, r_for, r_iter, r_seqE, r_zip, r_yes, r_noPart, r_aPart, part'_int, r_sl, r_chain, r_chainB, wipR, List.set_cons_zero, List.set_cons_succ, outD_rt, outD_nx, eq_self, decide_true, decide_false, ltC_i, leC_i, gtC_i, geC_i, iadd_i, isub_i, subD_i, addD_i, negD_i, absD_i, intD_i, min2_i, isN_non, isN_i, isN_s, isN_b, isN_t, isNN_non, isNN_i, isNN_s, isNN_b, isNN_t, lenD_l, lenD_t, lenD_r, tupleD_l, tupleD_t, listD_l, listD_t, revD_l, revD_t, iterD_l, iterD_t, iterD_r, seqD_l, seqD_t, seqD_r, ixL1, ixT1, ix20, ix21, ix30, ix31, ix32, ix40, ix41, ix42, ix43, isi_t, isi_tn, isi_tb, isi_ti, isi_ts, isi_tl, isi_bn, isi_bb, isi_bi, isi_bs, isi_bt, isi_in, isi_ib, isi_ii, isi_is, isi_it, isi_sn, isi_sb, isi_si, isi_ss, isi_st, eq_ii, eq_ss, eq_nn, eq_sn, eq_ns, eq_bb, toB_some', hk, e2])
  rw [foldl_cl] at h1
  have h2 : sortSetD (.lst ((cl es known).map .int)) = some (.lst ((cuts es known).map .int)) := by
    show ((intsD ((cl es known).map .int)).bind fun ns => if ns.length < 64 then some (D.lst ((sortU ns).map .int)) else none) = _
    have := cl_len known es
    rw [intsD_map]
    show (if (cl es known).length < 64 then some (D.lst ((sortU (cl es known)).map .int)) else none) = _
    rw [if_pos (by omega)]; rfl
  rw [List.nil_append] at h1
  simp only [List.map_nil] at h1
  simp only [g_cuts_of, f_cuts_of, r_runD, List.map_cons, List.map_nil, List.replicate, List.cons_append, List.nil_append, List.append_nil, r_seq, r_if, r_asB, r_un, r_bin, r_name, at_0, at_s, om_some, om_none, ob_some, ob_none, i_t, i_f, i_tt, i_ff, Bool.false_eq_true, asB'_bl, r_orT, r_andT, r_notT, r_orE, r_andE, r_notE, r_ifE, Bool.not_true, Bool.not_false, r_nil, seq'_nx, seq'_rt, seq'_ct, seq'_bk, r_ret, r_set, r_lc, r_mapA, r_nilA, r_consA, r_call, r_c, r_par, r_evalK, r_evalK0, setLR, r_unp, r_mut, r_put, r_aug, r_for, r_iter, r_seqE, r_zip, r_yes, r_noPart, r_aPart, part'_int, r_sl, r_chain, r_chainB, wipR, List.set_cons_zero, List.set_cons_succ, outD_rt, outD_nx, eq_self, decide_true, decide_false, ltC_i, leC_i, gtC_i, geC_i, iadd_i, isub_i, subD_i, addD_i, negD_i, absD_i, intD_i, min2_i, isN_non, isN_i, isN_s, isN_b, isN_t, isNN_non, isNN_i, isNN_s, isNN_b, isNN_t, lenD_l, lenD_t, lenD_r, tupleD_l, tupleD_t, listD_l, listD_t, revD_l, revD_t, iterD_l, iterD_t, iterD_r, seqD_l, seqD_t, seqD_r, ixL1, ixT1, ix20, ix21, ix30, ix31, ix32, ix40, ix41, ix42, ix43, isi_t, isi_tn, isi_tb, isi_ti, isi_ts, isi_tl, isi_bn, isi_bb, isi_bi, isi_bs, isi_bt, isi_in, isi_ib, isi_ii, isi_is, isi_it, isi_sn, isi_sb, isi_si, isi_ss, isi_st, eq_ii, eq_ss, eq_nn, eq_sn, eq_ns, eq_bb, toB_some', h0, h1, h2]
/-! ### the row as the program makes it -/
def pD (p : Int × Option Int) : D := .tup [.int p.1, oI p.2]
def pieces (cs : List Int) : List (Int × Option Int) := cs.zip ((cs.drop 1).map some ++ [none])
def stepP (H : Int → Option Str) (P : List Rw) (p : Int × Option Int) : List Rw := match H p.1 with
  | none => P
  | some v => match P.getLast? with
    | some r => if r.e = some p.1 ∧ r.t = v then P.dropLast ++ [⟨r.b, p.2, v⟩] else P ++ [⟨p.1, p.2, v⟩]
    | none => P ++ [⟨p.1, p.2, v⟩]
def rowP (es : List En) (known : Int) : List Rw := (pieces (cuts es known)).foldl (stepP fun d => held es d known) []
theorem eq_oI (o p : Option Int) : eqD (oI o) (oI p) = some (decide (o = p)) := by
  cases o with
  | none => cases p with
    | none => simp only [oI_n, eq_nn, decide_true]
    | some y => rw [eqD_of rfl rfl (.inl (by decide))]; simp [deq, toPy, PyData.eqv]
  | some x => cases p with
    | none => rw [eqD_of rfl rfl (.inr (by decide))]; simp [deq, toPy, PyData.eqv]
    | some y => simp only [oI_s, eq_ii]; congr 1; simp
theorem deq_oI (o p : Option Int) : deq (oI o) (oI p) = decide (o = p) := by
  have h := eq_oI o p
  rw [eqD_of (plain_oI o) (plain_oI p) (.inl (by cases o <;> simp [dep, toPy, PyData.depth]))] at h
  exact Option.some.inj h
theorem eq_pair (o : Option Int) (c : Int) (x y : Str) : eqD (.tup [oI o, .str x]) (.tup [.int c, .str y]) = some (decide (o = some c ∧ x = y)) := by
  rw [eqD_of (by show (plain (oI o) && (true && true)) = true; rw [plain_oI]; rfl) rfl (.inr (by simp [dep, toPy, toPyL, PyData.depth, PyData.depthAll]))]
  have h1 := deq_oI o (some c)
  unfold deq at h1 ⊢
  simp only [oI_s] at h1
  have : PyData.eqv (toPy (.tup [oI o, .str x])) (toPy (.tup [.int c, .str y])) = (PyData.eqv (toPy (oI o)) (toPy (.int c)) && (decide (x = y) && true)) := by
    simp [toPy, toPyL, PyData.eqv, PyData.eqvAll, bd_eq]
  rw [this, h1]
  by_cases h2 : o = some c <;> by_cases h3 : x = y <;> simp [h2, h3]
theorem setD_last {xs : List D} {x v : D} : setD (.lst (xs ++ [x])) (.int (-1)) v = some (.lst (xs ++ [v])) := by
  show ((ixN (xs ++ [x]).length (-1)).map fun j => D.lst ((xs ++ [x]).set j v)) = _
  have : ixN (xs ++ [x]).length (-1) = some xs.length := by
    unfold ixN; simp only [List.length_append, List.length_cons, List.length_nil]
    rw [if_neg (by omega), if_pos (by omega)]
    congr 1; omega
  rw [this]
  simp
theorem insU_len (i : Int) : ∀ js : List Int, (insU i js).length ≤ js.length + 1
  | [] => by simp [insU]
  | j :: js => by
    have := insU_len i js
    unfold insU
    split
    · simp
    · split
      · simp
      · simp only [List.length_cons]; omega
theorem sortU_len : ∀ ns : List Int, (sortU ns).length ≤ ns.length
  | [] => by simp [sortU]
  | n :: ns => by
    have := sortU_len ns
    have h := insU_len n (sortU ns)
    show (insU n (sortU ns)).length ≤ _
    simp only [List.length_cons]; omega
theorem cutD_1 {α : Type} (xs : List α) : L3.cutD xs (some 1) none = xs.drop 1 := by
  unfold L3.cutD
  rw [show HT.sIx xs.length 0 (some 1) = min 1 xs.length from HT.sIx_nat xs.length 0 1, HT.sIx_none]
  cases xs with
  | nil => rfl
  | cons x r =>
    rw [show min 1 (x :: r).length = 1 by simp]
    show (r.take ((x :: r).length - 1)) = r
    rw [List.length_cons, Nat.add_sub_cancel]
    exact List.take_length
theorem row_run (es : List En) (known : Int) (n : Nat) (hl : es.length ≤ 30) : g_row_as_known [.tup (es.map En.d), .int known] n = some (.tup ((rowP es known).map Rw.d), n) := by
  have h0 := lst0
  have hcl := cl_len known es
  have hcu : (cuts es known).length ≤ 60 := Nat.le_trans (sortU_len _) (by omega)
  obtain ⟨h1, _⟩ := loopS_foldI (n := n) (b := bindT ((bindN 4) :: ((bindN 5) :: []))) (drop := [4, 5, 6])
    (F := (seqS (setS 6 (callE (consA (nameE 0) (consA (nameE 4) (consA (nameE 1) nilA))) (g_held))) (seqS (ifS (asB (L3.bin (nameE 6) (cE .non) isNN)) (seqS (ifS (andT (asB (neE (nameE 3) (mapA nilA lstD))) (asB (eqE (sl (L3.bin (nameE 3) (un (cE (.int 1)) negD) ixD) (aPart (cE (.int 1))) noPart) (mapA (consA (nameE 4) (consA (nameE 6) nilA)) tupD)))) (seqS (putS 3 (un (cE (.int 1)) negD) (mapA (consA (L3.bin (L3.bin (nameE 3) (un (cE (.int 1)) negD) ixD) (cE (.int 0)) ixD) (consA (nameE 5) (consA (nameE 6) nilA))) tupD)) nilS) (seqS (mutS 3 (mapA (consA (nameE 4) (consA (nameE 5) (consA (nameE 6) nilA))) tupD) appD) nilS)) nilS) nilS) nilS)))
    pD (fun P : List Rw => [some (.tup (es.map En.d)), some (.int known), some (.lst ((cuts es known).map .int)), some (.lst (P.map Rw.d)), none, none, none]) (stepP fun d => held es d known) (fun i P => P.length ≤ i) (pieces (cuts es known)) 0 [] (Nat.zero_le _)
    (fun i p hx P hI => by
      have hi : i < (pieces (cuts es known)).length := (List.getElem?_eq_some_iff.mp hx).1
      have hi2 : i < 60 := by unfold pieces at hi; rw [List.length_zip] at hi; omega
      have hh := held_run es p.1 known n
      cases hv : held es p.1 known with
      | none =>
        rw [hv] at hh
        have es1 : stepP (fun d => held es d known) P p = P := by unfold stepP; simp only [hv]
        rw [es1]
        refine ⟨by omega, _, [some (.tup (es.map En.d)), some (.int known), some (.lst ((cuts es known).map .int)), some (.lst (P.map Rw.d)), some (.int p.1), some (oI p.2), some .non], rfl, .inl ?_, rfl⟩
        simp only [r_runD, List.map_cons, List.map_nil, List.replicate, List.cons_append, List.nil_append, List.append_nil, r_seq, r_if, r_asB, r_un, r_bin, r_name, at_0, at_s, om_some, om_none, ob_some, ob_none, i_t, i_f, i_tt, i_ff, Bool.false_eq_true, asB'_bl, r_orT, r_andT, r_notT, r_orE, r_andE, r_notE, r_ifE, Bool.not_true, Bool.not_false, r_nil, seq'_nx, seq'_rt, seq'_ct, seq'_bk, r_ret, r_set, r_lc, r_mapA, r_nilA, r_consA, r_call, r_c, r_par, r_evalK, r_evalK0, setLR, r_unp, r_mut, r_put, r_aug, r_for, r_iter, r_seqE, r_zip, r_yes, r_noPart, r_aPart, part'_int, r_sl, r_chain, r_chainB, wipR, List.set_cons_zero, List.set_cons_succ, outD_rt, outD_nx, eq_self, decide_true, decide_false, ltC_i, leC_i, gtC_i, geC_i, iadd_i, isub_i, subD_i, addD_i, negD_i, absD_i, intD_i, min2_i, isN_non, isN_i, isN_s, isN_b, isN_t, isNN_non, isNN_i, isNN_s, isNN_b, isNN_t, lenD_l, lenD_t, lenD_r, tupleD_l, tupleD_t, listD_l, listD_t, revD_l, revD_t, iterD_l, iterD_t, iterD_r, seqD_l, seqD_t, seqD_r, ixL1, ixT1, ix20, ix21, ix30, ix31, ix32, ix40, ix41, ix42, ix43, isi_t, isi_tn, isi_tb, isi_ti, isi_ts, isi_tl, isi_bn, isi_bb, isi_bi, isi_bs, isi_bt, isi_in, isi_ib, isi_ii, isi_is, isi_it, isi_sn, isi_sb, isi_si, isi_ss, isi_st, eq_ii, eq_ss, eq_nn, eq_sn, eq_ns, eq_bb, toB_some', hh, oS_n]
      | some v =>
        rw [hv] at hh
        have happ : appD (.lst (P.map Rw.d)) (.tup [.int p.1, oI p.2, .str v]) = some (.lst ((P ++ [(⟨p.1, p.2, v⟩ : Rw)]).map Rw.d)) := by
          rw [appD_l (by simp; omega), List.map_append]; rfl
        cases hp : P.getLast? with
        | none =>
          have : P = [] := List.getLast?_eq_none_iff.mp hp
          subst this
          have es1 : stepP (fun d => held es d known) [] p = [⟨p.1, p.2, v⟩] := by unfold stepP; simp only [hv]; rfl
          rw [es1]
          refine ⟨by simp, _, [some (.tup (es.map En.d)), some (.int known), some (.lst ((cuts es known).map .int)), some (.lst ([(⟨p.1, p.2, v⟩ : Rw)].map Rw.d)), some (.int p.1), some (oI p.2), some (.str v)], rfl, .inl ?_, rfl⟩
          simp only [List.map_nil, List.nil_append] at happ
          simp only [r_runD, List.map_cons, List.map_nil, List.replicate, List.cons_append, List.nil_append, List.append_nil, r_seq, r_if, r_asB, r_un, r_bin, r_name, at_0, at_s, om_some, om_none, ob_some, ob_none, i_t, i_f, i_tt, i_ff, Bool.false_eq_true, asB'_bl, r_orT, r_andT, r_notT, r_orE, r_andE, r_notE, r_ifE, Bool.not_true, Bool.not_false, r_nil, seq'_nx, seq'_rt, seq'_ct, seq'_bk, r_ret, r_set, r_lc, r_mapA, r_nilA, r_consA, r_call, r_c, r_par, r_evalK, r_evalK0, setLR, r_unp, r_mut, r_put, r_aug, r_for, r_iter, r_seqE, r_zip, r_yes, r_noPart, r_aPart, part'_int, r_sl, r_chain, r_chainB, wipR, List.set_cons_zero, List.set_cons_succ, outD_rt, outD_nx, eq_self, decide_true, decide_false, ltC_i, leC_i, gtC_i, geC_i, iadd_i, isub_i, subD_i, addD_i, negD_i, absD_i, intD_i, min2_i, isN_non, isN_i, isN_s, isN_b, isN_t, isNN_non, isNN_i, isNN_s, isNN_b, isNN_t, lenD_l, lenD_t, lenD_r, tupleD_l, tupleD_t, listD_l, listD_t, revD_l, revD_t, iterD_l, iterD_t, iterD_r, seqD_l, seqD_t, seqD_r, ixL1, ixT1, ix20, ix21, ix30, ix31, ix32, ix40, ix41, ix42, ix43, isi_t, isi_tn, isi_tb, isi_ti, isi_ts, isi_tl, isi_bn, isi_bb, isi_bi, isi_bs, isi_bt, isi_in, isi_ib, isi_ii, isi_is, isi_it, isi_sn, isi_sb, isi_si, isi_ss, isi_st, eq_ii, eq_ss, eq_nn, eq_sn, eq_ns, eq_bb, toB_some', hh, oS_s, h0, eq00, happ, tup3]
        | some r =>
          obtain ⟨Q, rfl⟩ := List.getLast?_eq_some_iff.mp hp
          have hne : ((Q ++ [r]).map Rw.d).isEmpty = false := by cases Q <;> rfl
          have h2 := eq_nil (plainL_map Rw.d plain_rw (Q ++ [r]))
          rw [hne] at h2
          have h3 : ((Q ++ [r]).map Rw.d).getLast? = some r.d := by simp
          have h4 : slD r.d (some 1) none = some (.tup [oI r.e, .str r.t]) := nr rfl
          have h5 := eq_pair r.e p.1 r.t v
          have h6 : ixD r.d (.int 0) = some (.int r.b) := nr rfl
          by_cases hc : r.e = some p.1 ∧ r.t = v
          · have es1 : stepP (fun d => held es d known) (Q ++ [r]) p = Q ++ [⟨r.b, p.2, v⟩] := by unfold stepP; simp [hv, hc.1, hc.2]
            rw [es1]
            have h7 : setD (.lst ((Q ++ [r]).map Rw.d)) (.int (-1)) (.tup [.int r.b, oI p.2, .str v]) = some (.lst ((Q ++ [(⟨r.b, p.2, v⟩ : Rw)]).map Rw.d)) := by
              rw [List.map_append, List.map_append]; exact setD_last
            refine ⟨by simp at hI ⊢; omega, _, [some (.tup (es.map En.d)), some (.int known), some (.lst ((cuts es known).map .int)), some (.lst ((Q ++ [(⟨r.b, p.2, v⟩ : Rw)]).map Rw.d)), some (.int p.1), some (oI p.2), some (.str v)], rfl, .inl ?_, rfl⟩
            rw [decide_eq_true hc] at h5
            simp only [r_runD, List.map_cons, List.map_nil, List.replicate, List.cons_append, List.nil_append, List.append_nil, r_seq, r_if, r_asB, r_un, r_bin, r_name, at_0, at_s, om_some, om_none, ob_some, ob_none, i_t, i_f, i_tt, i_ff, Bool.false_eq_true, asB'_bl, r_orT, r_andT, r_notT, r_orE, r_andE, r_notE, r_ifE, Bool.not_true, Bool.not_false, r_nil, seq'_nx, seq'_rt, seq'_ct, seq'_bk, r_ret, r_set, r_lc, r_mapA, r_nilA, r_consA, r_call, r_c, r_par, r_evalK, r_evalK0, setLR, r_unp, r_mut, r_put, r_aug, r_for, r_iter, r_seqE, r_zip, r_yes, r_noPart, r_aPart, part'_int, r_sl, r_chain, r_chainB, wipR, List.set_cons_zero, List.set_cons_succ, outD_rt, outD_nx, eq_self, decide_true, decide_false, ltC_i, leC_i, gtC_i, geC_i, iadd_i, isub_i, subD_i, addD_i, negD_i, absD_i, intD_i, min2_i, isN_non, isN_i, isN_s, isN_b, isN_t, isNN_non, isNN_i, isNN_s, isNN_b, isNN_t, lenD_l, lenD_t, lenD_r, tupleD_l, tupleD_t, listD_l, listD_t, revD_l, revD_t, iterD_l, iterD_t, iterD_r, seqD_l, seqD_t, seqD_r, ixL1, ixT1, ix20, ix21, ix30, ix31, ix32, ix40, ix41, ix42, ix43, isi_t, isi_tn, isi_tb, isi_ti, isi_ts, isi_tl, isi_bn, isi_bb, isi_bi, isi_bs, isi_bt, isi_in, isi_ib, isi_ii, isi_is, isi_it, isi_sn, isi_sb, isi_si, isi_ss, isi_st, eq_ii, eq_ss, eq_nn, eq_sn, eq_ns, eq_bb, toB_some', hh, oS_s, h0, h2, h3, h4, tup2, h5, h6, tup3, h7]
          · have es1 : stepP (fun d => held es d known) (Q ++ [r]) p = Q ++ [r] ++ [⟨p.1, p.2, v⟩] := by unfold stepP; simp [hv, hc]
            rw [es1]
            refine ⟨by simp at hI ⊢; omega, _, [some (.tup (es.map En.d)), some (.int known), some (.lst ((cuts es known).map .int)), some (.lst ((Q ++ [r] ++ [(⟨p.1, p.2, v⟩ : Rw)]).map Rw.d)), some (.int p.1), some (oI p.2), some (.str v)], rfl, .inl ?_, rfl⟩
            rw [decide_eq_false hc] at h5
            simp only [r_runD, List.map_cons, List.map_nil, List.replicate, List.cons_append, List.nil_append, List.append_nil, r_seq, r_if, r_asB, r_un, r_bin, r_name, at_0, at_s, om_some, om_none, ob_some, ob_none, i_t, i_f, i_tt, i_ff, Bool.false_eq_true, asB'_bl, r_orT, r_andT, r_notT, r_orE, r_andE, r_notE, r_ifE, Bool.not_true, Bool.not_false, r_nil, seq'_nx, seq'_rt, seq'_ct, seq'_bk, r_ret, r_set, r_lc, r_mapA, r_nilA, r_consA, r_call, r_c, r_par, r_evalK, r_evalK0, setLR, r_unp, r_mut, r_put, r_aug, r_for, r_iter, r_seqE, r_zip, r_yes, r_noPart, r_aPart, part'_int, r_sl, r_chain, r_chainB, wipR, List.set_cons_zero, List.set_cons_succ, outD_rt, outD_nx, eq_self, decide_true, decide_false, ltC_i, leC_i, gtC_i, geC_i, iadd_i, isub_i, subD_i, addD_i, negD_i, absD_i, intD_i, min2_i, isN_non, isN_i, isN_s, isN_b, isN_t, isNN_non, isNN_i, isNN_s, isNN_b, isNN_t, lenD_l, lenD_t, lenD_r, tupleD_l, tupleD_t, listD_l, listD_t, revD_l, revD_t, iterD_l, iterD_t, iterD_r, seqD_l, seqD_t, seqD_r, ixL1, ixT1, ix20, ix21, ix30, ix31, ix32, ix40, ix41, ix42, ix43, isi_t, isi_tn, isi_tb, isi_ti, isi_ts, isi_tl, isi_bn, isi_bb, isi_bi, isi_bs, isi_bt, isi_in, isi_ib, isi_ii, isi_is, isi_it, isi_sn, isi_sb, isi_si, isi_ss, isi_st, eq_ii, eq_ss, eq_nn, eq_sn, eq_ns, eq_bb, toB_some', hh, oS_s, h0, h2, h3, h4, tup2, h5, tup3, happ])
  have hc := cuts_run es known n hl
  have hs : slD (.lst ((cuts es known).map .int)) (some 1) none = some (.lst (((cuts es known).drop 1).map .int)) := by
    show some (D.lst (L3.cutD ((cuts es known).map .int) (some 1) none)) = _
    rw [cutD_map, cutD_1]
  have ha : addD (.lst (((cuts es known).drop 1).map .int)) (.lst [.non]) = some (.lst (((cuts es known).drop 1).map .int ++ [.non])) := addD_l (by simp; omega)
  have hz : zipD [.lst ((cuts es known).map .int), .lst (((cuts es known).drop 1).map .int ++ [.non])] = some ((pieces (cuts es known)).map pD) := by
    show some ((((cuts es known).map D.int).zip (((cuts es known).drop 1).map D.int ++ [.non])).map fun p => D.tup [p.1, p.2]) = _
    have e : ((cuts es known).drop 1).map D.int ++ [.non] = (((cuts es known).drop 1).map some ++ [none]).map oI := by
      rw [List.map_append, List.map_map]; rfl
    rw [e, List.zip_map, List.map_map]
    rfl
  simp only [List.map_nil] at h1
  simp only [g_row_as_known, f_row_as_known, r_runD, List.map_cons, List.map_nil, List.replicate, List.cons_append, List.nil_append, List.append_nil, r_seq, r_if, r_asB, r_un, r_bin, r_name, at_0, at_s, om_some, om_none, ob_some, ob_none, i_t, i_f, i_tt, i_ff, Bool.false_eq_true, asB'_bl, r_orT, r_andT, r_notT, r_orE, r_andE, r_notE, r_ifE, Bool.not_true, Bool.not_false, r_nil, seq'_nx, seq'_rt, seq'_ct, seq'_bk, r_ret, r_set, r_lc, r_mapA, r_nilA, r_consA, r_call, r_c, r_par, r_evalK, r_evalK0, setLR, r_unp, r_mut, r_put, r_aug, r_for, r_iter, r_seqE, r_zip, r_yes, r_noPart, r_aPart, part'_int, r_sl, r_chain, r_chainB, wipR, List.set_cons_zero, List.set_cons_succ, outD_rt, outD_nx, eq_self, decide_true, decide_false, ltC_i, leC_i, gtC_i, geC_i, iadd_i, isub_i, subD_i, addD_i, negD_i, absD_i, intD_i, min2_i, isN_non, isN_i, isN_s, isN_b, isN_t, isNN_non, isNN_i, isNN_s, isNN_b, isNN_t, lenD_l, lenD_t, lenD_r, tupleD_l, tupleD_t, listD_l, listD_t, revD_l, revD_t, iterD_l, iterD_t, iterD_r, seqD_l, seqD_t, seqD_r, ixL1, ixT1, ix20, ix21, ix30, ix31, ix32, ix40, ix41, ix42, ix43, isi_t, isi_tn, isi_tb, isi_ti, isi_ts, isi_tl, isi_bn, isi_bb, isi_bi, isi_bs, isi_bt, isi_in, isi_ib, isi_ii, isi_is, isi_it, isi_sn, isi_sb, isi_si, isi_ss, isi_st, eq_ii, eq_ss, eq_nn, eq_sn, eq_ns, eq_bb, toB_some', h0, hc, hs, lst1, ha, hz, h1]
  rfl
end K28
namespace K28
open PySem PySem.Spec PyProof.Rows L2 L3
/-! ### the row as the law makes it -/
def closeL (f : List Rw) (d : Int) (u : Str) : List Rw := match f.getLast? with
  | some r => f.dropLast ++ [⟨r.b, some d, u⟩]
  | none => f
def stepD (H : Int → Option Str) (s : List Rw × Option Str) (d : Int) : List Rw × Option Str :=
  if H d = s.2 then (s.1, H d) else
    match s.2, H d with
    | some u, some x => (closeL s.1 d u ++ [⟨d, none, x⟩], some x)
    | some u, none => (closeL s.1 d u, none)
    | none, some x => (s.1 ++ [⟨d, none, x⟩], some x)
    | none, none => (s.1, none)
def stepL (H : Int → Option Str) (s : List Rw × Option Str) (i : Nat) : List Rw × Option Str := stepD H s (-1 + (i : Int))
def rowL (es : List En) (known : Int) : List Rw := ((List.range 22).foldl (stepL fun d => held es d known) ([], none)).1
theorem setD_end {xs : List D} {x v : D} : setD (.lst (xs ++ [x])) (.int (((xs ++ [x]).length : Int) - 1)) v = some (.lst (xs ++ [v])) := by
  show ((ixN (xs ++ [x]).length (((xs ++ [x]).length : Int) - 1)).map fun j => D.lst ((xs ++ [x]).set j v)) = _
  have : ixN (xs ++ [x]).length (((xs ++ [x]).length : Int) - 1) = some xs.length := by
    unfold ixN; simp only [List.length_append, List.length_cons, List.length_nil]
    rw [if_pos (by omega), if_pos (by omega)]
    congr 1; omega
  rw [this]
  simp
theorem lrow_run (es : List En) (known : Int) (n : Nat) : g_law_row [.tup (es.map En.d), .int known] n = some (.tup ((rowL es known).map Rw.d), n) := by
  have h0 := lst0
  obtain ⟨h1, _⟩ := loopS_foldI (n := n) (b := bindN 4) (drop := [4, 5])
    (F := (seqS (setS 5 (callE (consA (nameE 0) (consA (nameE 4) (consA (nameE 1) nilA))) (g_law_held))) (seqS (ifS (andT (asB (neE (nameE 5) (nameE 3))) (asB (L3.bin (nameE 3) (cE .non) isNN))) (seqS (putS 2 (L3.bin (lenE (nameE 2)) (cE (.int 1)) subD) (mapA (consA (L3.bin (L3.bin (nameE 2) (L3.bin (lenE (nameE 2)) (cE (.int 1)) subD) ixD) (cE (.int 0)) ixD) (consA (nameE 4) (consA (nameE 3) nilA))) tupD)) nilS) nilS) (seqS (ifS (andT (asB (neE (nameE 5) (nameE 3))) (asB (L3.bin (nameE 5) (cE .non) isNN))) (seqS (mutS 2 (mapA (consA (nameE 4) (consA (cE .non) (consA (nameE 5) nilA))) tupD) appD) nilS) nilS) (seqS (setS 3 (nameE 5)) nilS)))))
    (fun i : Nat => D.int (-1 + (i : Int))) (fun s : List Rw × Option Str => [some (.tup (es.map En.d)), some (.int known), some (.lst (s.1.map Rw.d)), some (oS s.2), none, none]) (stepL fun d => held es d known) (fun i s => s.1.length ≤ i ∧ (s.2 ≠ none → s.1 ≠ [])) (List.range 22) 0 ([], none) ⟨Nat.zero_le _, fun h => absurd rfl h⟩
    (fun i j hj s hI => by
      obtain ⟨f, last⟩ := s
      obtain ⟨hI1, hI2⟩ := hI
      simp only at hI1 hI2
      have hi : i < 22 := by have := (List.getElem?_eq_some_iff.mp hj).1; simpa using this
      have hh := lheld_run es (-1 + (j : Int)) known n
      by_cases hv : held es (-1 + (j : Int)) known = last
      · have e1 : stepL (fun d => held es d known) (f, last) j = (f, last) := by unfold stepL stepD; simp only [hv, if_true]
        rw [hv] at hh
        rw [e1]
        refine ⟨⟨by simp only; omega, hI2⟩, _, [some (.tup (es.map En.d)), some (.int known), some (.lst (f.map Rw.d)), some (oS last), some (.int (-1 + (j : Int))), some (oS last)], rfl, .inl ?_, rfl⟩
        have hn : eqD (oS last) (oS last) = some true := by rw [eq_oS]; simp
        simp only [r_runD, List.map_cons, List.map_nil, List.replicate, List.cons_append, List.nil_append, List.append_nil, r_seq, r_if, r_asB, r_un, r_bin, r_name, at_0, at_s, om_some, om_none, ob_some, ob_none, i_t, i_f, i_tt, i_ff, Bool.false_eq_true, asB'_bl, r_orT, r_andT, r_notT, r_orE, r_andE, r_notE, r_ifE, Bool.not_true, Bool.not_false, r_nil, seq'_nx, seq'_rt, seq'_ct, seq'_bk, r_ret, r_set, r_lc, r_mapA, r_nilA, r_consA, r_call, r_c, r_par, r_evalK, r_evalK0, setLR, r_unp, r_mut, r_put, r_aug, r_for, r_iter, r_seqE, r_zip, r_yes, r_noPart, r_aPart, part'_int, r_sl, r_chain, r_chainB, wipR, List.set_cons_zero, List.set_cons_succ, outD_rt, outD_nx, eq_self, decide_true, decide_false, ltC_i, leC_i, gtC_i, geC_i, iadd_i, isub_i, subD_i, addD_i, negD_i, absD_i, intD_i, min2_i, isN_non, isN_i, isN_s, isN_b, isN_t, isNN_non, isNN_i, isNN_s, isNN_b, isNN_t, lenD_l, lenD_t, lenD_r, tupleD_l, tupleD_t, listD_l, listD_t, revD_l, revD_t, iterD_l, iterD_t, iterD_r, seqD_l, seqD_t, seqD_r, ixL1, ixT1, ix20, ix21, ix30, ix31, ix32, ix40, ix41, ix42, ix43, isi_t, isi_tn, isi_tb, isi_ti, isi_ts, isi_tl, isi_bn, isi_bb, isi_bi, isi_bs, isi_bt, isi_in, isi_ib, isi_ii, isi_is, isi_it, isi_sn, isi_sb, isi_si, isi_ss, isi_st, eq_ii, eq_ss, eq_nn, eq_sn, eq_ns, eq_bb, toB_some', hh, hn]
      · have hn : eqD (oS (held es (-1 + (j : Int)) known)) (oS last) = some false := by rw [eq_oS, decide_eq_false hv]
        cases last with
        | none =>
          cases hw : held es (-1 + (j : Int)) known with
          | none => exact absurd hw hv
          | some x =>
            rw [hw] at hh hn
            have e1 : stepL (fun d => held es d known) (f, none) j = (f ++ [⟨-1 + (j : Int), none, x⟩], some x) := by unfold stepL stepD; simp only [hw]; rfl
            rw [e1]
            have h2 : appD (.lst (f.map Rw.d)) (.tup [.int (-1 + (j : Int)), .non, .str x]) = some (.lst ((f ++ [(⟨-1 + (j : Int), none, x⟩ : Rw)]).map Rw.d)) := by
              rw [appD_l (by simp; omega), List.map_append]; rfl
            refine ⟨⟨by simp; omega, fun _ => by simp⟩, _, [some (.tup (es.map En.d)), some (.int known), some (.lst ((f ++ [(⟨-1 + (j : Int), none, x⟩ : Rw)]).map Rw.d)), some (.str x), some (.int (-1 + (j : Int))), some (.str x)], rfl, .inl ?_, rfl⟩
            simp only [oS_n, oS_s] at hn
            simp only [r_runD, List.map_cons, List.map_nil, List.replicate, List.cons_append, List.nil_append, List.append_nil, r_seq, r_if, r_asB, r_un, r_bin, r_name, at_0, at_s, om_some, om_none, ob_some, ob_none, i_t, i_f, i_tt, i_ff, Bool.false_eq_true, asB'_bl, r_orT, r_andT, r_notT, r_orE, r_andE, r_notE, r_ifE, Bool.not_true, Bool.not_false, r_nil, seq'_nx, seq'_rt, seq'_ct, seq'_bk, r_ret, r_set, r_lc, r_mapA, r_nilA, r_consA, r_call, r_c, r_par, r_evalK, r_evalK0, setLR, r_unp, r_mut, r_put, r_aug, r_for, r_iter, r_seqE, r_zip, r_yes, r_noPart, r_aPart, part'_int, r_sl, r_chain, r_chainB, wipR, List.set_cons_zero, List.set_cons_succ, outD_rt, outD_nx, eq_self, decide_true, decide_false, ltC_i, leC_i, gtC_i, geC_i, iadd_i, isub_i, subD_i, addD_i, negD_i, absD_i, intD_i, min2_i, isN_non, isN_i, isN_s, isN_b, isN_t, isNN_non, isNN_i, isNN_s, isNN_b, isNN_t, lenD_l, lenD_t, lenD_r, tupleD_l, tupleD_t, listD_l, listD_t, revD_l, revD_t, iterD_l, iterD_t, iterD_r, seqD_l, seqD_t, seqD_r, ixL1, ixT1, ix20, ix21, ix30, ix31, ix32, ix40, ix41, ix42, ix43, isi_t, isi_tn, isi_tb, isi_ti, isi_ts, isi_tl, isi_bn, isi_bb, isi_bi, isi_bs, isi_bt, isi_in, isi_ib, isi_ii, isi_is, isi_it, isi_sn, isi_sb, isi_si, isi_ss, isi_st, eq_ii, eq_ss, eq_nn, eq_sn, eq_ns, eq_bb, toB_some', hh, hn, oS_n, oS_s, tup3, h2]
        | some u =>
          have hne : f ≠ [] := hI2 (by simp)
          obtain ⟨Q, r, rfl⟩ : ∃ Q r, f = Q ++ [r] := ⟨f.dropLast, f.getLast hne, (List.dropLast_concat_getLast hne).symm⟩
          have hc : closeL (Q ++ [r]) (-1 + (j : Int)) u = Q ++ [⟨r.b, some (-1 + (j : Int)), u⟩] := by unfold closeL; simp
          have hx : ixD (.lst ((Q ++ [r]).map Rw.d)) (.int ((((Q ++ [r]).map Rw.d).length : Int) - 1)) = some r.d := by
            rw [ixLlast (by simp)]; simp
          have h6 : ixD r.d (.int 0) = some (.int r.b) := nr rfl
          have hs : ∀ z, setD (.lst ((Q ++ [r]).map Rw.d)) (.int ((((Q ++ [r]).map Rw.d).length : Int) - 1)) (Rw.d z) = some (.lst ((Q ++ [z]).map Rw.d)) := fun z => by
            rw [List.map_append, List.map_append]; exact setD_end
          have hs1 : setD (.lst ((Q ++ [r]).map Rw.d)) (.int ((((Q ++ [r]).map Rw.d).length : Int) - 1)) (.tup [.int r.b, .int (-1 + (j : Int)), .str u]) = some (.lst ((Q ++ [(⟨r.b, some (-1 + (j : Int)), u⟩ : Rw)]).map Rw.d)) := hs ⟨r.b, some (-1 + (j : Int)), u⟩
          cases hw : held es (-1 + (j : Int)) known with
          | none =>
            rw [hw] at hh hn
            have e1 : stepL (fun d => held es d known) (Q ++ [r], some u) j = (Q ++ [⟨r.b, some (-1 + (j : Int)), u⟩], none) := by unfold stepL stepD; simp only [hw, hc]; rfl
            rw [e1]
            refine ⟨⟨by simp at hI1 ⊢; omega, fun _ => by simp⟩, _, [some (.tup (es.map En.d)), some (.int known), some (.lst ((Q ++ [(⟨r.b, some (-1 + (j : Int)), u⟩ : Rw)]).map Rw.d)), some .non, some (.int (-1 + (j : Int))), some .non], rfl, .inl ?_, rfl⟩
            simp only [oS_n, oS_s] at hn
            simp only [r_runD, List.map_cons, List.map_nil, List.replicate, List.cons_append, List.nil_append, List.append_nil, r_seq, r_if, r_asB, r_un, r_bin, r_name, at_0, at_s, om_some, om_none, ob_some, ob_none, i_t, i_f, i_tt, i_ff, Bool.false_eq_true, asB'_bl, r_orT, r_andT, r_notT, r_orE, r_andE, r_notE, r_ifE, Bool.not_true, Bool.not_false, r_nil, seq'_nx, seq'_rt, seq'_ct, seq'_bk, r_ret, r_set, r_lc, r_mapA, r_nilA, r_consA, r_call, r_c, r_par, r_evalK, r_evalK0, setLR, r_unp, r_mut, r_put, r_aug, r_for, r_iter, r_seqE, r_zip, r_yes, r_noPart, r_aPart, part'_int, r_sl, r_chain, r_chainB, wipR, List.set_cons_zero, List.set_cons_succ, outD_rt, outD_nx, eq_self, decide_true, decide_false, ltC_i, leC_i, gtC_i, geC_i, iadd_i, isub_i, subD_i, addD_i, negD_i, absD_i, intD_i, min2_i, isN_non, isN_i, isN_s, isN_b, isN_t, isNN_non, isNN_i, isNN_s, isNN_b, isNN_t, lenD_l, lenD_t, lenD_r, tupleD_l, tupleD_t, listD_l, listD_t, revD_l, revD_t, iterD_l, iterD_t, iterD_r, seqD_l, seqD_t, seqD_r, ixL1, ixT1, ix20, ix21, ix30, ix31, ix32, ix40, ix41, ix42, ix43, isi_t, isi_tn, isi_tb, isi_ti, isi_ts, isi_tl, isi_bn, isi_bb, isi_bi, isi_bs, isi_bt, isi_in, isi_ib, isi_ii, isi_is, isi_it, isi_sn, isi_sb, isi_si, isi_ss, isi_st, eq_ii, eq_ss, eq_nn, eq_sn, eq_ns, eq_bb, toB_some', hh, hn, oS_n, oS_s, hx, h6, tup3, hs1]
          | some x =>
            rw [hw] at hh hn
            have e1 : stepL (fun d => held es d known) (Q ++ [r], some u) j = (Q ++ [⟨r.b, some (-1 + (j : Int)), u⟩] ++ [⟨-1 + (j : Int), none, x⟩], some x) := by
              have hne2 : ¬ (some x = some u) := fun z => hv (by rw [hw, z])
              unfold stepL stepD; simp only [hw, hc, hne2, if_false]
            rw [e1]
            have h2 : appD (.lst ((Q ++ [(⟨r.b, some (-1 + (j : Int)), u⟩ : Rw)]).map Rw.d)) (.tup [.int (-1 + (j : Int)), .non, .str x]) = some (.lst ((Q ++ [(⟨r.b, some (-1 + (j : Int)), u⟩ : Rw)] ++ [(⟨-1 + (j : Int), none, x⟩ : Rw)]).map Rw.d)) := by
              rw [appD_l (by simp at hI1 ⊢; omega), List.map_append (l₂ := [(⟨-1 + (j : Int), none, x⟩ : Rw)])]; rfl
            refine ⟨⟨by simp at hI1 ⊢; omega, fun _ => by simp⟩, _, [some (.tup (es.map En.d)), some (.int known), some (.lst ((Q ++ [(⟨r.b, some (-1 + (j : Int)), u⟩ : Rw)] ++ [(⟨-1 + (j : Int), none, x⟩ : Rw)]).map Rw.d)), some (.str x), some (.int (-1 + (j : Int))), some (.str x)], rfl, .inl ?_, rfl⟩
            simp only [oS_n, oS_s] at hn
            simp only [r_runD, List.map_cons, List.map_nil, List.replicate, List.cons_append, List.nil_append, List.append_nil, r_seq, r_if, r_asB, r_un, r_bin, r_name, at_0, at_s, om_some, om_none, ob_some, ob_none, i_t, i_f, i_tt, i_ff, Bool.false_eq_true, asB'_bl, r_orT, r_andT, r_notT, r_orE, r_andE, r_notE, r_ifE, Bool.not_true, Bool.not_false, r_nil, seq'_nx, seq'_rt, seq'_ct, seq'_bk, r_ret, r_set, r_lc, r_mapA, r_nilA, r_consA, r_call, r_c, r_par, r_evalK, r_evalK0, setLR, r_unp, r_mut, r_put, r_aug, r_for, r_iter, r_seqE, r_zip, r_yes, r_noPart, r_aPart, part'_int, r_sl, r_chain, r_chainB, wipR, List.set_cons_zero, List.set_cons_succ, outD_rt, outD_nx, eq_self, decide_true, decide_false, ltC_i, leC_i, gtC_i, geC_i, iadd_i, isub_i, subD_i, addD_i, negD_i, absD_i, intD_i, min2_i, isN_non, isN_i, isN_s, isN_b, isN_t, isNN_non, isNN_i, isNN_s, isNN_b, isNN_t, lenD_l, lenD_t, lenD_r, tupleD_l, tupleD_t, listD_l, listD_t, revD_l, revD_t, iterD_l, iterD_t, iterD_r, seqD_l, seqD_t, seqD_r, ixL1, ixT1, ix20, ix21, ix30, ix31, ix32, ix40, ix41, ix42, ix43, isi_t, isi_tn, isi_tb, isi_ti, isi_ts, isi_tl, isi_bn, isi_bb, isi_bi, isi_bs, isi_bt, isi_in, isi_ib, isi_ii, isi_is, isi_it, isi_sn, isi_sb, isi_si, isi_ss, isi_st, eq_ii, eq_ss, eq_nn, eq_sn, eq_ns, eq_bb, toB_some', hh, hn, oS_n, oS_s, hx, h6, tup3, hs1, h2])
  have hr : rng2E (un (cE (.int 1)) negD) (cE (.int 21)) [some (.tup (es.map En.d)), some (.int known), some (.lst []), some .non, none, none] n = some (rngD (-1) 21, n) := rng2_run (by simp only [r_runD, List.map_cons, List.map_nil, List.replicate, List.cons_append, List.nil_append, List.append_nil, r_seq, r_if, r_asB, r_un, r_bin, r_name, at_0, at_s, om_some, om_none, ob_some, ob_none, i_t, i_f, i_tt, i_ff, Bool.false_eq_true, asB'_bl, r_orT, r_andT, r_notT, r_orE, r_andE, r_notE, r_ifE, Bool.not_true, Bool.not_false, r_nil, seq'_nx, seq'_rt, seq'_ct, seq'_bk, r_ret, r_set, r_lc, r_mapA, r_nilA, r_consA, r_call, r_c, r_par, r_evalK, r_evalK0, setLR, r_unp, r_mut, r_put, r_aug, r_for, r_iter, r_seqE, r_zip, r_yes, r_noPart, r_aPart, part'_int, r_sl, r_chain, r_chainB, wipR, List.set_cons_zero, List.set_cons_succ, outD_rt, outD_nx, eq_self, decide_true, decide_false, ltC_i, leC_i, gtC_i, geC_i, iadd_i, isub_i, subD_i, addD_i, negD_i, absD_i, intD_i, min2_i, isN_non, isN_i, isN_s, isN_b, isN_t, isNN_non, isNN_i, isNN_s, isNN_b, isNN_t, lenD_l, lenD_t, lenD_r, tupleD_l, tupleD_t, listD_l, listD_t, revD_l, revD_t, iterD_l, iterD_t, iterD_r, seqD_l, seqD_t, seqD_r, ixL1, ixT1, ix20, ix21, ix30, ix31, ix32, ix40, ix41, ix42, ix43, isi_t, isi_tn, isi_tb, isi_ti, isi_ts, isi_tl, isi_bn, isi_bb, isi_bi, isi_bs, isi_bt, isi_in, isi_ib, isi_ii, isi_is, isi_it, isi_sn, isi_sb, isi_si, isi_ss, isi_st, eq_ii, eq_ss, eq_nn, eq_sn, eq_ns, eq_bb, toB_some']) r_c (by decide) (by decide) (by decide)
  have hd : rngD (-1) 21 = (List.range 22).map fun i : Nat => D.int (-1 + (i : Int)) := nr rfl
  simp only [List.map_nil, oS_n] at h1
  rw [hd] at hr
  simp only [g_law_row, f_law_row, r_runD, r_seq, r_par, r_evalK, r_evalK0, r_mapA, r_nilA, r_c, om_some, ob_some, h0, setLR, List.map_cons, List.map_nil, List.replicate, List.cons_append, List.nil_append, List.set_cons_succ, List.set_cons_zero, seq'_nx, r_for, hr, wipR, h1, r_ret, r_un, r_name, at_s, at_0, tupleD_l, outD_rt]
  rfl
end K28
namespace K28
open PySem PySem.Spec PyProof.Rows L2 L3
/-! ### days, one by one -/
def run (H : Int → Option Str) : Nat → Int → List Rw × Option Str → List Rw × Option Str
  | 0, _, s => s
  | n + 1, d, s => run H n (d + 1) (stepD H s d)
theorem run_range (H : Int → Option Str) : ∀ (n : Nat) (d : Int) (s : List Rw × Option Str), (List.range n).foldl (fun s (i : Nat) => stepD H s (d + (i : Int))) s = run H n d s
  | 0, d, s => rfl
  | n + 1, d, s => by
    rw [List.range_succ_eq_map, List.foldl_cons, List.foldl_map]
    show _ = run H n (d + 1) (stepD H s d)
    rw [← run_range H n (d + 1)]
    have e : (d + ((0 : Nat) : Int)) = d := by omega
    rw [e]
    congr 1
    funext s i
    rw [show d + ((i + 1 : Nat) : Int) = d + 1 + (i : Int) by omega]
theorem run_add (H : Int → Option Str) : ∀ (a b : Nat) (d : Int) (s : List Rw × Option Str), run H (a + b) d s = run H b (d + a) (run H a d s)
  | 0, b, d, s => by rw [Nat.zero_add, show d + ((0 : Nat) : Int) = d by omega]; rfl
  | a + 1, b, d, s => by
    rw [show a + 1 + b = (a + b) + 1 by omega]
    show run H (a + b) (d + 1) (stepD H s d) = run H b (d + ((a + 1 : Nat) : Int)) (run H a (d + 1) (stepD H s d))
    rw [run_add H a b, show d + 1 + (a : Int) = d + ((a + 1 : Nat) : Int) by omega]
theorem step_same {H : Int → Option Str} {s : List Rw × Option Str} {d : Int} (h : H d = s.2) : stepD H s d = s := by
  unfold stepD; rw [if_pos h, h]
theorem run_const (H : Int → Option Str) : ∀ (n : Nat) (d : Int) (s : List Rw × Option Str), (∀ j : Int, d ≤ j → j < d + n → H j = s.2) → run H n d s = s
  | 0, _, _, _ => rfl
  | n + 1, d, s, h => by
    show run H n (d + 1) (stepD H s d) = s
    rw [step_same (h d (by omega) (by omega))]
    exact run_const H n (d + 1) s fun j h1 h2 => h j (by omega) (by omega)
theorem run_congr {H H' : Int → Option Str} : ∀ (n : Nat) (d : Int) (s : List Rw × Option Str), (∀ j : Int, d ≤ j → j < d + n → H j = H' j) → run H n d s = run H' n d s
  | 0, _, _, _ => rfl
  | n + 1, d, s, h => by
    show run H n (d + 1) (stepD H s d) = run H' n (d + 1) (stepD H' s d)
    have e : stepD H s d = stepD H' s d := by unfold stepD; rw [h d (by omega) (by omega)]
    rw [e]
    exact run_congr n (d + 1) _ fun j h1 h2 => h j (by omega) (by omega)
theorem rowL_run (es : List En) (known : Int) : rowL es known = (run (fun d => held es d known) 22 (-1) ([], none)).1 := by
  unfold rowL
  rw [← run_range]; rfl
theorem step_snd {H : Int → Option Str} {s : List Rw × Option Str} {d : Int} : (stepD H s d).2 = H d := by
  unfold stepD
  split
  · rfl
  · cases h1 : s.2 <;> cases h2 : H d <;> rfl
/-! ### pieces -/
def goP (H : Int → Option Str) : List Int → List Rw → List Rw
  | [], P => P
  | [c], P => stepP H P (c, none)
  | c :: c' :: r, P => goP H (c' :: r) (stepP H P (c, some c'))
theorem pieces_go (H : Int → Option Str) : ∀ (cs : List Int) (P : List Rw), (pieces cs).foldl (stepP H) P = goP H cs P
  | [], P => rfl
  | [c], P => rfl
  | c :: c' :: r, P => by
    show (pieces (c' :: r)).foldl (stepP H) (stepP H P (c, some c')) = _
    rw [pieces_go H (c' :: r)]; rfl
def Rel (c : Int) (s : List Rw × Option Str) (P : List Rw) : Prop :=
  (s.2 = none ∧ P = s.1 ∧ ∀ r, s.1.getLast? = some r → ∃ e, r.e = some e ∧ e < c) ∨ ∃ v Q b, s.2 = some v ∧ s.1 = Q ++ [⟨b, none, v⟩] ∧ P = Q ++ [⟨b, some c, v⟩]
theorem closeL_snoc (Q : List Rw) (r : Rw) (d : Int) (u : Str) : closeL (Q ++ [r]) d u = Q ++ [⟨r.b, some d, u⟩] := by unfold closeL; simp
theorem stepP_none {H : Int → Option Str} {P : List Rw} {p : Int × Option Int} (h : H p.1 = none) : stepP H P p = P := by unfold stepP; simp only [h]
theorem stepP_app {H : Int → Option Str} {P : List Rw} {p : Int × Option Int} {v : Str} (h : H p.1 = some v) (hn : ∀ r, P.getLast? = some r → ¬ (r.e = some p.1 ∧ r.t = v)) : stepP H P p = P ++ [⟨p.1, p.2, v⟩] := by
  unfold stepP; simp only [h]
  cases hp : P.getLast? with
  | none => rfl
  | some r => simp only [if_neg (hn r hp)]
theorem stepP_join {H : Int → Option Str} {Q : List Rw} {b : Int} {p : Int × Option Int} {v : Str} (h : H p.1 = some v) : stepP H (Q ++ [⟨b, some p.1, v⟩]) p = Q ++ [⟨b, p.2, v⟩] := by
  unfold stepP; simp [h]
/-- a piece of the program is the law's step at its first day -/
theorem piece {H : Int → Option Str} {c : Int} {s : List Rw × Option Str} {P : List Rw} (h : Rel c s P) (o : Option Int) : (H c = none → (stepD H s c).1 = stepP H P (c, o) ∧ (stepD H s c).2 = none ∧ ∀ r, (stepD H s c).1.getLast? = some r → ∃ e, r.e = some e ∧ e ≤ c) ∧
    (∀ v, H c = some v → (stepD H s c).2 = some v ∧ ∃ Q b, (stepD H s c).1 = Q ++ [⟨b, none, v⟩] ∧ stepP H P (c, o) = Q ++ [⟨b, o, v⟩]) := by
  obtain ⟨f, last⟩ := s
  rcases h with ⟨h1, h2, h3⟩ | ⟨u, Q, b, h1, h2, h3⟩
  · simp only at h1 h2 h3
    subst h1 h2
    refine ⟨fun hc => ?_, fun v hc => ?_⟩
    · have e : stepD H (P, none) c = (P, none) := step_same hc
      rw [e, stepP_none hc]
      exact ⟨rfl, rfl, fun r hr => let ⟨e, h4, h5⟩ := h3 r hr; ⟨e, h4, by omega⟩⟩
    · have e : stepD H (P, none) c = (P ++ [⟨c, none, v⟩], some v) := by unfold stepD; simp [hc]
      rw [e, stepP_app hc fun r hr z => by
        obtain ⟨e, h4, h5⟩ := h3 r hr
        rw [h4] at z
        have := Option.some.inj z.1
        omega]
      exact ⟨rfl, P, c, rfl, rfl⟩
  · simp only at h1 h2
    subst h1 h2 h3
    refine ⟨fun hc => ?_, fun v hc => ?_⟩
    · have e : stepD H (Q ++ [⟨b, none, u⟩], some u) c = (Q ++ [⟨b, some c, u⟩], none) := by unfold stepD; simp [hc, closeL_snoc]
      rw [e, stepP_none hc]
      refine ⟨rfl, rfl, fun r hr => ?_⟩
      simp at hr
      subst hr
      exact ⟨c, rfl, Int.le_refl c⟩
    · by_cases hv : v = u
      · subst hv
        have e : stepD H (Q ++ [⟨b, none, v⟩], some v) c = (Q ++ [⟨b, none, v⟩], some v) := step_same hc
        rw [e, stepP_join (p := (c, o)) hc]
        exact ⟨rfl, Q, b, rfl, rfl⟩
      · have e : stepD H (Q ++ [⟨b, none, u⟩], some u) c = (Q ++ [⟨b, some c, u⟩] ++ [⟨c, none, v⟩], some v) := by unfold stepD; simp [hc, hv, closeL_snoc]
        rw [e, stepP_app hc fun r hr z => by
          simp at hr
          subst hr
          exact hv z.2.symm]
        exact ⟨rfl, Q ++ [⟨b, some c, u⟩], c, rfl, rfl⟩
theorem go_run {H : Int → Option Str} : ∀ (cs : List Int) (c : Int) (s : List Rw × Option Str) (P : List Rw), (c :: cs).Pairwise (· < ·) → (∀ x ∈ c :: cs, x ≤ 20) → (∀ d d' : Int, c ≤ d → d ≤ d' → (∀ x ∈ c :: cs, ¬ (d < x ∧ x ≤ d')) → H d = H d') → Rel c s P →
    goP H (c :: cs) P = (run H (21 - c).toNat c s).1
  | [], c, s, P, hs, hb, hH, hr => by
    have hc : c ≤ 20 := hb c List.mem_cons_self
    rw [show (21 - c).toNat = 1 + (20 - c).toNat by omega, run_add]
    have e1 : run H 1 c s = stepD H s c := rfl
    rw [e1, run_const H _ _ _ fun j h1 h2 => by
      rw [step_snd]
      exact (hH c j (Int.le_refl c) (by omega) fun x hx z => by simp at hx; omega).symm]
    show stepP H P (c, none) = _
    obtain ⟨p1, p2⟩ := piece hr none
    cases hc : H c with
    | none => exact (p1 hc).1.symm
    | some v => obtain ⟨_, Q, b, e2, e3⟩ := p2 v hc; rw [e2, e3]
  | c' :: cs, c, s, P, hs, hb, hH, hr => by
    obtain ⟨h1, h2⟩ := List.pairwise_cons.mp hs
    have hcc : c < c' := h1 c' List.mem_cons_self
    have hc' : c' ≤ 20 := hb c' (by simp)
    have hup : ∀ x ∈ c' :: cs, c' ≤ x := fun x hx => by
      rcases List.mem_cons.mp hx with rfl | hx
      · exact Int.le_refl _
      · exact Int.le_of_lt ((List.pairwise_cons.mp h2).1 x hx)
    show goP H (c' :: cs) (stepP H P (c, some c')) = _
    rw [show (21 - c).toNat = (1 + (c' - c - 1).toNat) + (21 - c').toNat by omega, run_add, run_add]
    have e1 : run H 1 c s = stepD H s c := rfl
    rw [e1, run_const H (c' - c - 1).toNat _ _ fun j h3 h4 => by
      rw [step_snd]
      refine (hH c j (Int.le_refl c) (by omega) fun x hx z => ?_).symm
      rcases List.mem_cons.mp hx with rfl | hx
      · omega
      · have := hup x hx; omega]
    rw [show c + ((1 + (c' - c - 1).toNat : Nat) : Int) = c' by omega]
    refine go_run cs c' _ _ h2 (fun x hx => hb x (List.mem_cons_of_mem _ hx)) (fun d d' h3 h4 h5 => hH d d' (by omega) h4 fun x hx z => ?_) ?_
    · rcases List.mem_cons.mp hx with rfl | hx
      · omega
      · exact h5 x hx z
    · obtain ⟨p1, p2⟩ := piece hr (some c')
      cases hc : H c with
      | none =>
        obtain ⟨q1, q2, q3⟩ := p1 hc
        exact .inl ⟨q2, q1.symm, fun r hr => let ⟨e, g1, g2⟩ := q3 r hr; ⟨e, g1, by omega⟩⟩
      | some v =>
        obtain ⟨q1, Q, b, q2, q3⟩ := p2 v hc
        exact .inr ⟨v, Q, b, q1, q2, q3⟩
/-! ### held, between the cuts -/
theorem mem_cl {es : List En} {known : Int} {x : En} (hx : x ∈ es) (hk : x.k ≤ known) : x.b ∈ cl es known ∧ ∀ e, x.e = some e → e ∈ cl es known := by
  unfold cl
  refine ⟨List.mem_flatMap.mpr ⟨x, hx, by simp [ct, hk]⟩, fun e he => List.mem_flatMap.mpr ⟨x, hx, by simp [ct, hk, he]⟩⟩
theorem held_const {es : List En} {known d d' : Int} (hd : d ≤ d') (h : ∀ c ∈ cl es known, ¬ (d < c ∧ c ≤ d')) : held es d known = held es d' known := by
  unfold held heldL
  congr 2
  refine List.filter_congr fun x hx => ?_
  by_cases hk : x.k ≤ known
  · obtain ⟨h1, h2⟩ := mem_cl hx hk
    have g1 := h x.b h1
    congr 1
    unfold En.has
    have e1 : decide (x.b ≤ d) = decide (x.b ≤ d') := by
      by_cases a : x.b ≤ d <;> by_cases b : x.b ≤ d' <;> simp [a, b] <;> omega
    rw [e1]
    cases he : x.e with
    | none => rfl
    | some e =>
      have g2 := h e (h2 e he)
      have e2 : decide (d < e) = decide (d' < e) := by
        by_cases a : d < e <;> by_cases b : d' < e <;> simp [a, b] <;> omega
      simp only [e2]
  · simp [hk]
theorem held_before {es : List En} {known d : Int} (h : ∀ c ∈ cl es known, d < c) : held es d known = none := by
  have : heldL es d known = [] := by
    unfold heldL
    refine List.filter_eq_nil_iff.mpr fun x hx z => ?_
    simp only [Bool.and_eq_true, decide_eq_true_eq] at z
    have h1 := h x.b (mem_cl hx z.1).1
    have h2 := z.2
    unfold En.has at h2
    simp only [Bool.and_eq_true, decide_eq_true_eq] at h2
    omega
  unfold held; rw [this]; rfl
theorem row_eq (es : List En) (known : Int) (hb : ∀ c ∈ cl es known, 0 ≤ c ∧ c ≤ 20) : rowP es known = rowL es known := by
  rw [rowL_run]
  unfold rowP
  rw [pieces_go]
  have hm : ∀ k, k ∈ cuts es known ↔ k ∈ cl es known := fun k => mem_sortU
  have hs : (cuts es known).Pairwise (· < ·) := sortU_up _
  cases hc : cuts es known with
  | nil =>
    have hn : ∀ d, held es d known = none := fun d => held_before fun c hcm => by
      have := (hm c).mpr hcm
      rw [hc] at this; cases this
    rw [run_const _ _ _ _ fun j _ _ => hn j]
    rfl
  | cons c cs =>
    have hc0 : c ∈ cl es known := (hm c).mp (by rw [hc]; exact List.mem_cons_self)
    have hcb := hb c hc0
    rw [hc] at hs
    have hlow : ∀ x ∈ cl es known, c ≤ x := fun x hx => by
      have := (hm x).mpr hx
      rw [hc] at this
      rcases List.mem_cons.mp this with rfl | h
      · exact Int.le_refl _
      · exact Int.le_of_lt ((List.pairwise_cons.mp hs).1 x h)
    rw [show 22 = (c + 1).toNat + (21 - c).toNat by omega, run_add, run_const _ (c + 1).toNat (-1) ([], none) fun j h1 h2 => held_before fun x hx => by have := hlow x hx; omega]
    rw [show (-1 : Int) + ((c + 1).toNat : Int) = c by omega]
    refine go_run cs c ([], none) [] hs (fun x hx => (hb x ((hm x).mp (by rw [hc]; exact hx))).2) (fun d d' h1 h2 h3 => held_const h2 fun x hx z => ?_) (.inl ⟨rfl, rfl, fun r hr => by cases hr⟩)
    have := (hm x).mpr hx
    rw [hc] at this
    exact h3 x this z
end K28
namespace K28
open PySem PySem.Spec PyProof.Rows L2 L3
/-! ### what a row covers -/
def Rw.has (r : Rw) (day : Int) : Bool := decide (r.b ≤ day) && (match r.e with | none => true | some e => decide (day < e))
def cov (f : List Rw) (d : Int) : Option Str := ((f.filter fun r => r.has d).getLast?).map (·.t)
def mk (k : Int) (r : Rw) : En := ⟨r.b, r.e, k, r.t⟩
theorem held_mk (f : List Rw) (k d : Int) : held (f.map (mk k)) d k = cov f d := by
  unfold held heldL cov
  rw [List.filter_map, List.getLast?_map, Option.map_map]
  have : ((fun x : En => decide (x.k ≤ k) && x.has d) ∘ mk k) = fun r : Rw => r.has d := by
    funext r
    show (decide (k ≤ k) && (mk k r).has d) = r.has d
    rw [decide_eq_true (Int.le_refl k), Bool.true_and]; rfl
  rw [this]
  rfl
theorem cov_snoc (f : List Rw) (r : Rw) (d : Int) : cov (f ++ [r]) d = if r.has d = true then some r.t else cov f d := by
  unfold cov
  rw [List.filter_append]
  by_cases h : r.has d = true
  · rw [if_pos h]; simp [h]
  · rw [if_neg h]; simp [h]
structure Inv (H : Int → Option Str) (c : Int) (s : List Rw × Option Str) : Prop where
  a : ∀ d, -1 ≤ d → d < c → cov s.1 d = H d
  b : s.2 = none → ∀ d, c ≤ d → cov s.1 d = none
  c : ∀ v, s.2 = some v → ∃ Q b, s.1 = Q ++ [⟨b, none, v⟩] ∧ b < c ∧ ∀ d, c ≤ d → cov Q d = none
theorem inv_none {H : Int → Option Str} {c : Int} {f : List Rw} (h : Inv H c (f, none)) : Inv H (c + 1) (stepD H (f, none) c) := by
  cases hc : H c with
  | none =>
    rw [step_same hc]
    refine ⟨fun d h1 h2 => ?_, fun _ d h1 => h.b rfl d (by omega), fun v hv => by cases hv⟩
    by_cases e : d = c
    · subst e; rw [hc]; exact h.b rfl d (Int.le_refl d)
    · exact h.a d h1 (by omega)
  | some v =>
    have e : stepD H (f, none) c = (f ++ [⟨c, none, v⟩], some v) := by unfold stepD; simp [hc]
    rw [e]
    refine ⟨fun d h1 h2 => ?_, fun hv => (by cases hv), fun u hu => ?_⟩
    · show cov (f ++ [⟨c, none, v⟩]) d = _
      rw [cov_snoc]
      by_cases e : d = c
      · subst e; rw [if_pos (by unfold Rw.has; simp), hc]
      · rw [if_neg (by unfold Rw.has; simp; omega)]
        exact h.a d h1 (by omega)
    · cases hu
      exact ⟨f, c, rfl, by omega, fun d hd => h.b rfl d (by omega)⟩
theorem inv_step {H : Int → Option Str} {c : Int} {s : List Rw × Option Str} (h : Inv H c s) : Inv H (c + 1) (stepD H s c) := by
  obtain ⟨f, last⟩ := s
  cases last with
  | none => exact inv_none h
  | some u =>
    obtain ⟨Q, b, h1, h2, h3⟩ := h.c u rfl
    simp only at h1
    subst h1
    by_cases hc : H c = some u
    · rw [step_same hc]
      refine ⟨fun d g1 g2 => ?_, fun hv => (by cases hv), fun v hv => ?_⟩
      · by_cases e : d = c
        · subst e
          show cov (Q ++ [⟨b, none, u⟩]) d = _
          rw [cov_snoc, if_pos (by unfold Rw.has; simp; omega), hc]
        · exact h.a d g1 (by omega)
      · cases hv
        exact ⟨Q, b, rfl, by omega, fun d hd => h3 d (by omega)⟩
    · have e : stepD H (Q ++ [⟨b, none, u⟩], some u) c = stepD H (Q ++ [⟨b, some c, u⟩], none) c := by
        unfold stepD
        cases hh : H c with
        | none => simp [closeL_snoc]
        | some v =>
          have hv : v ≠ u := fun z => hc (by rw [hh, z])
          simp [closeL_snoc, hv]
      rw [e]
      refine inv_none ⟨fun d g1 g2 => ?_, fun _ d g1 => ?_, fun v hv => by cases hv⟩
      · show cov (Q ++ [⟨b, some c, u⟩]) d = _
        have := h.a d g1 g2
        simp only [cov_snoc] at this ⊢
        rw [← this]
        have : (Rw.has ⟨b, some c, u⟩ d) = (Rw.has ⟨b, none, u⟩ d) := by unfold Rw.has; simp [g2]
        rw [this]
      · show cov (Q ++ [⟨b, some c, u⟩]) d = _
        rw [cov_snoc, if_neg (by unfold Rw.has; simp; omega)]
        exact h3 d g1
theorem inv_run {H : Int → Option Str} : ∀ (n : Nat) (c : Int) (s : List Rw × Option Str), Inv H c s → Inv H (c + n) (run H n c s)
  | 0, c, s, h => by rw [show c + ((0 : Nat) : Int) = c by omega]; exact h
  | n + 1, c, s, h => by
    have := inv_run n (c + 1) (stepD H s c) (inv_step h)
    rw [show c + ((n + 1 : Nat) : Int) = c + 1 + (n : Int) by omega]
    exact this
theorem row_cov (es : List En) (known d : Int) (h1 : -1 ≤ d) (h2 : d ≤ 20) : cov (rowL es known) d = held es d known := by
  have := inv_run (H := fun d => held es d known) 22 (-1) ([], none) ⟨fun d h1 h2 => by omega, fun _ _ _ => rfl, fun v hv => by cases hv⟩
  rw [rowL_run]
  exact this.a d h1 (by omega)
theorem row_made (es : List En) (known k : Int) : rowL ((rowL es known).map (mk k)) k = rowL es known := by
  rw [rowL_run ((rowL es known).map (mk k)), rowL_run es known]
  rw [run_congr (H' := fun d => held es d known) 22 (-1) ([], none) fun j h1 h2 => by rw [held_mk, ← rowL_run]; exact row_cov es known j h1 (by omega)]
/-! ### entries that can be -/
def nm (x : Str) : Prop := x = "a" ∨ x = "b" ∨ x = "c1"
structure OkE (x : En) : Prop where
  b0 : 0 ≤ x.b
  b1 : x.b ≤ 20
  e : ∀ e, x.e = some e → x.b < e ∧ e ≤ 20
  k0 : 0 ≤ x.k
  k1 : x.k ≤ 60
  t : nm x.t
structure Inv2 (c : Int) (s : List Rw × Option Str) : Prop where
  r : ∀ r ∈ s.1, 0 ≤ r.b ∧ r.b < c ∧ nm r.t ∧ ∀ e, r.e = some e → r.b < e ∧ e < c
  l : ∀ v, s.2 = some v → nm v
  n : (s.1.length : Int) ≤ c + 1
theorem inv2_step {H : Int → Option Str} (hn : ∀ d v, H d = some v → nm v ∧ 0 ≤ d) {c : Int} {s : List Rw × Option Str} (h : Inv2 c s) : Inv2 (c + 1) (stepD H s c) := by
  obtain ⟨f, last⟩ := s
  have up : ∀ r ∈ f, 0 ≤ r.b ∧ r.b < c + 1 ∧ nm r.t ∧ ∀ e, r.e = some e → r.b < e ∧ e < c + 1 := fun r hr => by
    obtain ⟨h1, h2, h3, h4⟩ := h.r r hr
    exact ⟨h1, by omega, h3, fun e he => by have := h4 e he; omega⟩
  have hlen := h.n
  simp only at hlen
  have cl : ∀ u, last = some u → (∀ r ∈ closeL f c u, 0 ≤ r.b ∧ r.b < c + 1 ∧ nm r.t ∧ ∀ e, r.e = some e → r.b < e ∧ e < c + 1) ∧ (closeL f c u).length = f.length := fun u hu => by
    cases hf : f.getLast? with
    | none =>
      have e : closeL f c u = f := by unfold closeL; rw [hf]
      rw [e]; exact ⟨up, rfl⟩
    | some r =>
      obtain ⟨Q, rfl⟩ := List.getLast?_eq_some_iff.mp hf
      rw [closeL_snoc]
      refine ⟨fun z hz => ?_, by simp⟩
      rcases List.mem_append.mp hz with hz | hz
      · exact up z (List.mem_append_left _ hz)
      · have : z = ⟨r.b, some c, u⟩ := by simpa using hz
        subst this
        obtain ⟨h1, h2, h3, h4⟩ := h.r r (by simp)
        exact ⟨h1, by show r.b < c + 1; omega, h.l u hu, fun e he => by cases he; exact ⟨h2, by omega⟩⟩
  unfold stepD
  split
  · exact ⟨up, fun v hv => (hn c v hv).1, by simp only; omega⟩
  · cases last with
    | none =>
      cases hc : H c with
      | none => exact ⟨up, fun v hv => (by cases hv), by simp only; omega⟩
      | some v =>
        refine ⟨fun z hz => ?_, fun u hu => by cases hu; exact (hn c v hc).1, by simp; omega⟩
        rcases List.mem_append.mp hz with hz | hz
        · exact up z hz
        · have : z = ⟨c, none, v⟩ := by simpa using hz
          subst this
          exact ⟨(hn c v hc).2, by show c < c + 1; omega, (hn c v hc).1, fun e he => by cases he⟩
    | some u =>
      obtain ⟨c1, c2⟩ := cl u rfl
      cases hc : H c with
      | none => exact ⟨c1, fun v hv => (by cases hv), by simp only; omega⟩
      | some v =>
        refine ⟨fun z hz => ?_, fun u hu => by cases hu; exact (hn c v hc).1, by simp; omega⟩
        rcases List.mem_append.mp hz with hz | hz
        · exact c1 z hz
        · have : z = ⟨c, none, v⟩ := by simpa using hz
          subst this
          exact ⟨(hn c v hc).2, by show c < c + 1; omega, (hn c v hc).1, fun e he => by cases he⟩
theorem inv2_run {H : Int → Option Str} (hn : ∀ d v, H d = some v → nm v ∧ 0 ≤ d) : ∀ (n : Nat) (c : Int) (s : List Rw × Option Str), Inv2 c s → Inv2 (c + n) (run H n c s)
  | 0, c, s, h => by rw [show c + ((0 : Nat) : Int) = c by omega]; exact h
  | n + 1, c, s, h => by
    have := inv2_run hn n (c + 1) (stepD H s c) (inv2_step hn h)
    rw [show c + ((n + 1 : Nat) : Int) = c + 1 + (n : Int) by omega]
    exact this
theorem held_ok {es : List En} (h : ∀ x ∈ es, OkE x) {d known : Int} {v : Str} (hv : held es d known = some v) : nm v ∧ 0 ≤ d := by
  unfold held at hv
  cases hl : (heldL es d known).getLast? with
  | none => rw [hl] at hv; cases hv
  | some x =>
    rw [hl] at hv; cases hv
    have hx := List.mem_of_getLast? hl
    unfold heldL at hx
    obtain ⟨h1, h2⟩ := List.mem_filter.mp hx
    simp only [Bool.and_eq_true] at h2
    have h3 := h2.2
    unfold En.has at h3
    simp only [Bool.and_eq_true, decide_eq_true_eq] at h3
    have := (h x h1).b0
    exact ⟨(h x h1).t, by omega⟩
theorem row_ok {es : List En} (h : ∀ x ∈ es, OkE x) (known : Int) : (∀ r ∈ rowL es known, 0 ≤ r.b ∧ r.b ≤ 20 ∧ nm r.t ∧ ∀ e, r.e = some e → r.b < e ∧ e ≤ 20) ∧ (rowL es known).length ≤ 22 := by
  have := inv2_run (H := fun d => held es d known) (fun d v hv => held_ok h hv) 22 (-1) ([], none) ⟨fun r hr => (by cases hr), fun v hv => (by cases hv), by simp⟩
  rw [rowL_run]
  refine ⟨fun r hr => ?_, ?_⟩
  · obtain ⟨h1, h2, h3, h4⟩ := this.r r hr
    exact ⟨h1, by omega, h3, fun e he => by have := h4 e he; omega⟩
  · have := this.n; omega
theorem made_ok {es : List En} (h : ∀ x ∈ es, OkE x) (known k : Int) (h0 : 0 ≤ k) (h1 : k ≤ 60) : ∀ x ∈ (rowL es known).map (mk k), OkE x := fun x hx => by
  obtain ⟨r, hr, rfl⟩ := List.mem_map.mp hx
  obtain ⟨g1, g2, g3, g4⟩ := (row_ok h known).1 r hr
  exact ⟨g1, g2, g4, h0, h1, g3⟩
theorem cl_ok {es : List En} (h : ∀ x ∈ es, OkE x) (known : Int) : ∀ c ∈ cl es known, 0 ≤ c ∧ c ≤ 20 := fun c hc => by
  unfold cl at hc
  obtain ⟨x, hx, hc⟩ := List.mem_flatMap.mp hc
  have ok := h x hx
  have := ok.b0
  have := ok.b1
  unfold ct at hc
  split at hc
  · rcases List.mem_cons.mp hc with rfl | hc
    · omega
    · cases he : x.e with
      | none => rw [he] at hc; cases hc
      | some e =>
        rw [he] at hc
        have hc : c = e := by simpa using hc
        have := ok.e e he
        omega
  · cases hc
end K28
namespace K28
open PySem PySem.Spec PyProof.Rows L2 L3
/-! ### the law's entries -/
theorem entries_run (dr : List Int) (n : Nat) : ∃ (es : List En) (n' : Nat), es.length ≤ 7 ∧ (∀ x ∈ es, OkE x) ∧ g_law_entries dr [.w] n = some (.tup (es.map En.d), n') := by
  have h0 := lst0
  obtain ⟨k0, a1, a2, a3⟩ := next_run dr 4 (by decide) n
  obtain ⟨m, b1, b2, b3⟩ := next_run dr 8 (by decide) (n + 1)
  have hr : rng1E (callE (consA (nameE 0) (consA (cE (.int 8)) nilA)) (g_law_next dr)) [some .w, some (.lst []), some (.int k0), none, none] (n + 1) = some (rngD 0 m, n + 1 + 1) :=
    rng1_run (by simp only [r_runD, List.map_cons, List.map_nil, List.replicate, List.cons_append, List.nil_append, List.append_nil, r_seq, r_if, r_asB, r_un, r_bin, r_name, at_0, at_s, om_some, om_none, ob_some, ob_none, i_t, i_f, i_tt, i_ff, Bool.false_eq_true, asB'_bl, r_orT, r_andT, r_notT, r_orE, r_andE, r_notE, r_ifE, Bool.not_true, Bool.not_false, r_nil, seq'_nx, seq'_rt, seq'_ct, seq'_bk, r_ret, r_set, r_lc, r_mapA, r_nilA, r_consA, r_call, r_c, r_par, r_evalK, r_evalK0, setLR, r_unp, r_mut, r_put, r_aug, r_for, r_iter, r_seqE, r_zip, r_yes, r_noPart, r_aPart, part'_int, r_sl, r_chain, r_chainB, wipR, List.set_cons_zero, List.set_cons_succ, outD_rt, outD_nx, eq_self, decide_true, decide_false, b3]) (by omega) (by omega)
  obtain ⟨ρ', n', e, hI⟩ := loopS_invI (b := bindN 3) (drop := [3, 4])
    (F := (seqS (setS 4 (callE (consA (nameE 0) (consA (cE (.int 9)) nilA)) (g_law_next dr))) (seqS (mutS 1 (mapA (consA (nameE 4) (consA (ifE (asB (eqE (callE (consA (nameE 0) (consA (cE (.int 4)) nilA)) (g_law_next dr)) (cE (.int 0)))) (cE .non) (L3.bin (L3.bin (nameE 4) (cE (.int 1)) addD) (callE (consA (nameE 0) (consA (cE (.int 6)) nilA)) (g_law_next dr)) addD)) (consA (nameE 2) (consA (callE (consA (nameE 0) (consA (mapA (consA (cE (.str "a")) (consA (cE (.str "b")) (consA (cE (.str "c1")) nilA))) lstD) nilA)) (g_law_pick dr)) nilA)))) tupD) appD) (seqS (augS 2 (callE (consA (nameE 0) (consA (cE (.int 4)) nilA)) (g_law_next dr)) iadd) nilS))))
    (I := fun i ρ _ => ∃ (es : List En) (k : Int), es.length ≤ i ∧ (∀ x ∈ es, OkE x) ∧ 0 ≤ k ∧ k ≤ 3 + 3 * i ∧ ρ = [some .w, some (.lst (es.map En.d)), some (.int k), none, none])
    (rngD 0 m) 0 [some .w, some (.lst []), some (.int k0), none, none] (n + 1 + 1) ⟨[], k0, Nat.le_refl 0, fun x hx => (by cases hx), a1, by omega, rfl⟩ (fun i x hx ρ m' ⟨es, k, c1, c2, c3, c4, c5⟩ => by
      subst c5
      obtain ⟨rfl, hi⟩ := rngD_get hx
      have hi7 : i < 8 := by omega
      obtain ⟨b, d1, d2, d3⟩ := next_run dr 9 (by decide) m'
      obtain ⟨q, f1, f2, f3⟩ := next_run dr 4 (by decide) (m' + 1)
      have l3 : lstD [.str "a", .str "b", .str "c1"] = some (.lst [.str "a", .str "b", .str "c1"]) := nr rfl
      by_cases hq : q = 0
      · obtain ⟨t, g1, g2⟩ := pick_run dr [.str "a", .str "b", .str "c1"] (by simp) (m' + 1 + 1)
        obtain ⟨z, p1, p2, p3⟩ := next_run dr 4 (by decide) (m' + 1 + 1 + 1)
        obtain ⟨ts, rfl, hts⟩ : ∃ ts, t = .str ts ∧ nm ts := by
          simp only [List.mem_cons, List.not_mem_nil, or_false] at g1
          rcases g1 with rfl | rfl | rfl
          · exact ⟨_, rfl, .inl rfl⟩
          · exact ⟨_, rfl, .inr (.inl rfl)⟩
          · exact ⟨_, rfl, .inr (.inr rfl)⟩
        have hap : appD (.lst (es.map En.d)) (.tup [.int b, .non, .int k, .str ts]) = some (.lst ((es ++ [(⟨b, none, k, ts⟩ : En)]).map En.d)) := by
          rw [appD_l (by simp; omega), List.map_append]; rfl
        refine ⟨_, [some .w, some (.lst ((es ++ [(⟨b, none, k, ts⟩ : En)]).map En.d)), some (.int (k + z)), some (.int (0 + (i : Int))), some (.int b)], m' + 1 + 1 + 1 + 1, rfl, .inl ?_, es ++ [⟨b, none, k, ts⟩], k + z, by simp; omega, fun x hx => ?_, by omega, by omega, rfl⟩
        · simp only [r_runD, List.map_cons, List.map_nil, List.replicate, List.cons_append, List.nil_append, List.append_nil, r_seq, r_if, r_asB, r_un, r_bin, r_name, at_0, at_s, om_some, om_none, ob_some, ob_none, i_t, i_f, i_tt, i_ff, Bool.false_eq_true, asB'_bl, r_orT, r_andT, r_notT, r_orE, r_andE, r_notE, r_ifE, Bool.not_true, Bool.not_false, r_nil, seq'_nx, seq'_rt, seq'_ct, seq'_bk, r_ret, r_set, r_lc, r_mapA, r_nilA, r_consA, r_call, r_c, r_par, r_evalK, r_evalK0, setLR, r_unp, r_mut, r_put, r_aug, r_for, r_iter, r_seqE, r_zip, r_yes, r_noPart, r_aPart, part'_int, r_sl, r_chain, r_chainB, wipR, List.set_cons_zero, List.set_cons_succ, outD_rt, outD_nx, eq_self, decide_true, decide_false, ltC_i, leC_i, gtC_i, geC_i, iadd_i, isub_i, subD_i, addD_i, negD_i, absD_i, intD_i, min2_i, isN_non, isN_i, isN_s, isN_b, isN_t, isNN_non, isNN_i, isNN_s, isNN_b, isNN_t, lenD_l, lenD_t, lenD_r, tupleD_l, tupleD_t, listD_l, listD_t, revD_l, revD_t, iterD_l, iterD_t, iterD_r, seqD_l, seqD_t, seqD_r, ixL1, ixT1, ix20, ix21, ix30, ix31, ix32, ix40, ix41, ix42, ix43, isi_t, isi_tn, isi_tb, isi_ti, isi_ts, isi_tl, isi_bn, isi_bb, isi_bi, isi_bs, isi_bt, isi_in, isi_ib, isi_ii, isi_is, isi_it, isi_sn, isi_sb, isi_si, isi_ss, isi_st, eq_ii, eq_ss, eq_nn, eq_sn, eq_ns, eq_bb, toB_some', d3, f3, hq, l3, g2, tup4, hap, p3]
        · rcases List.mem_append.mp hx with hx | hx
          · exact c2 x hx
          · have : x = ⟨b, none, k, ts⟩ := by simpa using hx
            subst this
            exact ⟨d1, by show b ≤ 20; omega, fun e he => (by cases he), c3, by show k ≤ 60; omega, hts⟩
      · obtain ⟨r, r1, r2, r3⟩ := next_run dr 6 (by decide) (m' + 1 + 1)
        obtain ⟨t, g1, g2⟩ := pick_run dr [.str "a", .str "b", .str "c1"] (by simp) (m' + 1 + 1 + 1)
        obtain ⟨z, p1, p2, p3⟩ := next_run dr 4 (by decide) (m' + 1 + 1 + 1 + 1)
        obtain ⟨ts, rfl, hts⟩ : ∃ ts, t = .str ts ∧ nm ts := by
          simp only [List.mem_cons, List.not_mem_nil, or_false] at g1
          rcases g1 with rfl | rfl | rfl
          · exact ⟨_, rfl, .inl rfl⟩
          · exact ⟨_, rfl, .inr (.inl rfl)⟩
          · exact ⟨_, rfl, .inr (.inr rfl)⟩
        have hap : appD (.lst (es.map En.d)) (.tup [.int b, .int (b + 1 + r), .int k, .str ts]) = some (.lst ((es ++ [(⟨b, some (b + 1 + r), k, ts⟩ : En)]).map En.d)) := by
          rw [appD_l (by simp; omega), List.map_append]; rfl
        refine ⟨_, [some .w, some (.lst ((es ++ [(⟨b, some (b + 1 + r), k, ts⟩ : En)]).map En.d)), some (.int (k + z)), some (.int (0 + (i : Int))), some (.int b)], m' + 1 + 1 + 1 + 1 + 1, rfl, .inl ?_, es ++ [⟨b, some (b + 1 + r), k, ts⟩], k + z, by simp; omega, fun x hx => ?_, by omega, by omega, rfl⟩
        · simp only [r_runD, List.map_cons, List.map_nil, List.replicate, List.cons_append, List.nil_append, List.append_nil, r_seq, r_if, r_asB, r_un, r_bin, r_name, at_0, at_s, om_some, om_none, ob_some, ob_none, i_t, i_f, i_tt, i_ff, Bool.false_eq_true, asB'_bl, r_orT, r_andT, r_notT, r_orE, r_andE, r_notE, r_ifE, Bool.not_true, Bool.not_false, r_nil, seq'_nx, seq'_rt, seq'_ct, seq'_bk, r_ret, r_set, r_lc, r_mapA, r_nilA, r_consA, r_call, r_c, r_par, r_evalK, r_evalK0, setLR, r_unp, r_mut, r_put, r_aug, r_for, r_iter, r_seqE, r_zip, r_yes, r_noPart, r_aPart, part'_int, r_sl, r_chain, r_chainB, wipR, List.set_cons_zero, List.set_cons_succ, outD_rt, outD_nx, eq_self, decide_true, decide_false, ltC_i, leC_i, gtC_i, geC_i, iadd_i, isub_i, subD_i, addD_i, negD_i, absD_i, intD_i, min2_i, isN_non, isN_i, isN_s, isN_b, isN_t, isNN_non, isNN_i, isNN_s, isNN_b, isNN_t, lenD_l, lenD_t, lenD_r, tupleD_l, tupleD_t, listD_l, listD_t, revD_l, revD_t, iterD_l, iterD_t, iterD_r, seqD_l, seqD_t, seqD_r, ixL1, ixT1, ix20, ix21, ix30, ix31, ix32, ix40, ix41, ix42, ix43, isi_t, isi_tn, isi_tb, isi_ti, isi_ts, isi_tl, isi_bn, isi_bb, isi_bi, isi_bs, isi_bt, isi_in, isi_ib, isi_ii, isi_is, isi_it, isi_sn, isi_sb, isi_si, isi_ss, isi_st, eq_ii, eq_ss, eq_nn, eq_sn, eq_ns, eq_bb, toB_some', d3, f3, hq, r3, l3, g2, tup4, hap, p3]
        · rcases List.mem_append.mp hx with hx | hx
          · exact c2 x hx
          · have : x = ⟨b, some (b + 1 + r), k, ts⟩ := by simpa using hx
            subst this
            exact ⟨d1, by show b ≤ 20; omega, fun e he => by cases he; show b < b + 1 + r ∧ b + 1 + r ≤ 20; omega, c3, by show k ≤ 60; omega, hts⟩)
  obtain ⟨es, k, c1, c2, c3, c4, rfl⟩ := hI
  rw [rngD_len] at c1
  refine ⟨es, n', by omega, c2, ?_⟩
  simp only [g_law_entries, f_law_entries, r_runD, List.map_cons, List.map_nil, List.replicate, List.cons_append, List.nil_append, List.append_nil, r_seq, r_if, r_asB, r_un, r_bin, r_name, at_0, at_s, om_some, om_none, ob_some, ob_none, i_t, i_f, i_tt, i_ff, Bool.false_eq_true, asB'_bl, r_orT, r_andT, r_notT, r_orE, r_andE, r_notE, r_ifE, Bool.not_true, Bool.not_false, r_nil, seq'_nx, seq'_rt, seq'_ct, seq'_bk, r_ret, r_set, r_lc, r_mapA, r_nilA, r_consA, r_call, r_c, r_par, r_evalK, r_evalK0, setLR, r_unp, r_mut, r_put, r_aug, r_for, r_iter, r_seqE, r_zip, r_yes, r_noPart, r_aPart, part'_int, r_sl, r_chain, r_chainB, wipR, List.set_cons_zero, List.set_cons_succ, outD_rt, outD_nx, eq_self, decide_true, decide_false, ltC_i, leC_i, gtC_i, geC_i, iadd_i, isub_i, subD_i, addD_i, negD_i, absD_i, intD_i, min2_i, isN_non, isN_i, isN_s, isN_b, isN_t, isNN_non, isNN_i, isNN_s, isNN_b, isNN_t, lenD_l, lenD_t, lenD_r, tupleD_l, tupleD_t, listD_l, listD_t, revD_l, revD_t, iterD_l, iterD_t, iterD_r, seqD_l, seqD_t, seqD_r, ixL1, ixT1, ix20, ix21, ix30, ix31, ix32, ix40, ix41, ix42, ix43, isi_t, isi_tn, isi_tb, isi_ti, isi_ts, isi_tl, isi_bn, isi_bb, isi_bi, isi_bs, isi_bt, isi_in, isi_ib, isi_ii, isi_is, isi_it, isi_sn, isi_sb, isi_si, isi_ss, isi_st, eq_ii, eq_ss, eq_nn, eq_sn, eq_ns, eq_bb, toB_some', h0, a3, hr, e]
/-! ### least_entries, same_now -/
theorem least_run (R : List Rw) (k : Int) (n : Nat) : g_least_entries [.tup (R.map Rw.d), .int k] n = some (.tup ((R.map (mk k)).map En.d), n) := by
  have h1 := lcGo_map (b := bindT ((bindN 2) :: ((bindN 3) :: ((bindN 4) :: [])))) (t := yesT) (el := mapA (consA (nameE 2) (consA (nameE 3) (consA (nameE 1) (consA (nameE 4) nilA)))) tupD)
    (ρ := [some (.tup (R.map Rw.d)), some (.int k), none, none, none]) (n := n) Rw.d (fun r => [some (.tup (R.map Rw.d)), some (.int k), some (.int r.b), some (oI r.e), some (.str r.t)]) (fun _ => true) (fun r => (mk k r).d) R (fun _ _ => rfl)
    (fun _ _ => rfl) (fun r _ _ => by
      have e : (mk k r).d = .tup [.int r.b, oI r.e, .int k, .str r.t] := rfl
      simp only [r_runD, List.map_cons, List.map_nil, List.replicate, List.cons_append, List.nil_append, List.append_nil, r_seq, r_if, r_asB, r_un, r_bin, r_name, at_0, at_s, om_some, om_none, ob_some, ob_none, i_t, i_f, i_tt, i_ff, Bool.false_eq_true, asB'_bl, r_orT, r_andT, r_notT, r_orE, r_andE, r_notE, r_ifE, Bool.not_true, Bool.not_false, r_nil, seq'_nx, seq'_rt, seq'_ct, seq'_bk, r_ret, r_set, r_lc, r_mapA, r_nilA, r_consA, r_call, r_c, r_par, r_evalK, r_evalK0, setLR, r_unp, r_mut, r_put, r_aug, r_for, r_iter, r_seqE, r_zip, r_yes, r_noPart, r_aPart, part'_int, r_sl, r_chain, r_chainB, wipR, List.set_cons_zero, List.set_cons_succ, outD_rt, outD_nx, eq_self, decide_true, decide_false, tup4, e])
  have e : (R.filter fun _ => true).map (fun r => (mk k r).d) = (R.map (mk k)).map En.d := by rw [List.filter_eq_self.mpr (fun _ _ => rfl), List.map_map]; rfl
  rw [e] at h1
  simp only [g_least_entries, f_least_entries, r_runD, List.map_cons, List.map_nil, List.replicate, List.cons_append, List.nil_append, List.append_nil, r_seq, r_if, r_asB, r_un, r_bin, r_name, at_0, at_s, om_some, om_none, ob_some, ob_none, i_t, i_f, i_tt, i_ff, Bool.false_eq_true, asB'_bl, r_orT, r_andT, r_notT, r_orE, r_andE, r_notE, r_ifE, Bool.not_true, Bool.not_false, r_nil, seq'_nx, seq'_rt, seq'_ct, seq'_bk, r_ret, r_set, r_lc, r_mapA, r_nilA, r_consA, r_call, r_c, r_par, r_evalK, r_evalK0, setLR, r_unp, r_mut, r_put, r_aug, r_for, r_iter, r_seqE, r_zip, r_yes, r_noPart, r_aPart, part'_int, r_sl, r_chain, r_chainB, wipR, List.set_cons_zero, List.set_cons_succ, outD_rt, outD_nx, eq_self, decide_true, decide_false, ltC_i, leC_i, gtC_i, geC_i, iadd_i, isub_i, subD_i, addD_i, negD_i, absD_i, intD_i, min2_i, isN_non, isN_i, isN_s, isN_b, isN_t, isNN_non, isNN_i, isNN_s, isNN_b, isNN_t, lenD_l, lenD_t, lenD_r, tupleD_l, tupleD_t, listD_l, listD_t, revD_l, revD_t, iterD_l, iterD_t, iterD_r, seqD_l, seqD_t, seqD_r, ixL1, ixT1, ix20, ix21, ix30, ix31, ix32, ix40, ix41, ix42, ix43, isi_t, isi_tn, isi_tb, isi_ti, isi_ts, isi_tl, isi_bn, isi_bb, isi_bi, isi_bs, isi_bt, isi_in, isi_ib, isi_ii, isi_is, isi_it, isi_sn, isi_sb, isi_si, isi_ss, isi_st, eq_ii, eq_ss, eq_nn, eq_sn, eq_ns, eq_bb, toB_some', h1]
theorem held_all {es : List En} {d k k' : Int} (h : ∀ x ∈ es, x.k ≤ k) (h' : ∀ x ∈ es, x.k ≤ k') : held es d k = held es d k' := by
  unfold held heldL
  congr 2
  exact List.filter_congr fun x hx => by simp [h x hx, h' x hx]
theorem rowL_all {es : List En} {k k' : Int} (h : ∀ x ∈ es, x.k ≤ k) (h' : ∀ x ∈ es, x.k ≤ k') : rowL es k = rowL es k' := by
  rw [rowL_run, rowL_run]
  rw [run_congr (H' := fun d => held es d k') 22 (-1) ([], none) fun j _ _ => held_all h h']
theorem foldl_max_ge (ns : List Int) (i : Int) : i ≤ ns.foldl max i ∧ ∀ y ∈ ns, y ≤ ns.foldl max i := by
  obtain ⟨_, h⟩ := foldl_max_mem ns i
  exact ⟨h i List.mem_cons_self, fun y hy => h y (List.mem_cons_of_mem _ hy)⟩
theorem plain_row (R : List Rw) : plain (.tup (R.map Rw.d)) = true := plainL_map Rw.d plain_rw R
theorem dep_row (R : List Rw) : dep (.tup (R.map Rw.d)) ≤ 60 := by
  show PyData.depthAll (toPyL (R.map Rw.d)) + 1 ≤ 60
  have : ∀ R : List Rw, PyData.depthAll (toPyL (R.map Rw.d)) ≤ 10 := by
    intro R
    induction R with
    | nil => simp [toPyL, PyData.depthAll]
    | cons r R ih =>
      show max (PyData.depth (toPy r.d)) (PyData.depthAll (toPyL (R.map Rw.d))) ≤ 10
      have : PyData.depth (toPy r.d) ≤ 10 := by
        unfold Rw.d
        cases r.e <;> simp [toPy, toPyL, PyData.depth, PyData.depthAll]
      omega
  have := this R
  omega
theorem eq_rows (R S : List Rw) : eqD (.tup (R.map Rw.d)) (.tup (S.map Rw.d)) = some (deq (.tup (R.map Rw.d)) (.tup (S.map Rw.d))) := eqD_of (plain_row R) (plain_row S) (.inl (dep_row R))
theorem same_run (es os : List En) (n : Nat) (h1 : ∀ x ∈ es, OkE x) (h2 : ∀ x ∈ os, OkE x) (l1 : es.length ≤ 30) (l2 : os.length ≤ 30) :
    g_same_now [.tup (es.map En.d), .tup (os.map En.d)] n = some (.bl (deq (.tup ((rowL es 99).map Rw.d)) (.tup ((rowL os 99).map Rw.d))), n) := by
  have hc := lcGo_map (b := bindN 3) (t := yesT) (el := L3.bin (nameE 3) (cE (.int 2)) ixD)
    (ρ := [some (.tup (es.map En.d)), some (.tup (os.map En.d)), none, none]) (n := n) En.d (fun x => [some (.tup (es.map En.d)), some (.tup (os.map En.d)), none, some x.d]) (fun _ => true) (fun x => .int x.k) (es ++ os) (fun _ _ => rfl)
    (fun _ _ => rfl) (fun x _ _ => by
      have e : ixD x.d (.int 2) = some (.int x.k) := nr rfl
      simp only [r_runD, List.map_cons, List.map_nil, List.replicate, List.cons_append, List.nil_append, List.append_nil, r_seq, r_if, r_asB, r_un, r_bin, r_name, at_0, at_s, om_some, om_none, ob_some, ob_none, i_t, i_f, i_tt, i_ff, Bool.false_eq_true, asB'_bl, r_orT, r_andT, r_notT, r_orE, r_andE, r_notE, r_ifE, Bool.not_true, Bool.not_false, r_nil, seq'_nx, seq'_rt, seq'_ct, seq'_bk, r_ret, r_set, r_lc, r_mapA, r_nilA, r_consA, r_call, r_c, r_par, r_evalK, r_evalK0, setLR, r_unp, r_mut, r_put, r_aug, r_for, r_iter, r_seqE, r_zip, r_yes, r_noPart, r_aPart, part'_int, r_sl, r_chain, r_chainB, wipR, List.set_cons_zero, List.set_cons_succ, outD_rt, outD_nx, eq_self, decide_true, decide_false, e])
  have e : ((es ++ os).filter fun _ => true).map (fun x => D.int x.k) = ((es ++ os).map (·.k)).map .int := by rw [List.filter_eq_self.mpr (fun _ _ => rfl), List.map_map]; rfl
  rw [e] at hc
  have ha : addD (.tup (es.map En.d)) (.tup (os.map En.d)) = some (.tup ((es ++ os).map En.d)) := by rw [addD_t (by simp; omega), List.map_append]
  have hb : addD (.lst [.int 0]) (.lst (((es ++ os).map (·.k)).map .int)) = some (.lst ((0 :: (es ++ os).map (·.k)).map .int)) := by rw [addD_l (by simp; omega)]; rfl
  have hm : maxD (.lst ((0 :: (es ++ os).map (·.k)).map .int)) = some (.int (((es ++ os).map (·.k)).foldl max 0)) := by
    show ((intsD ((0 :: (es ++ os).map (·.k)).map .int)).bind fun ns => (maxI ns).map D.int) = _
    rw [intsD_map]; rfl
  simp only [List.map_cons] at hm
  obtain ⟨g1, g2⟩ := foldl_max_ge ((es ++ os).map (·.k)) 0
  have hk : ∀ x ∈ es ++ os, x.k ≤ ((es ++ os).map (·.k)).foldl max 0 := fun x hx => g2 _ (List.mem_map_of_mem hx)
  have e1 := row_run es (((es ++ os).map (·.k)).foldl max 0) n l1
  have e2 := row_run os (((es ++ os).map (·.k)).foldl max 0) n l2
  rw [row_eq es _ (cl_ok h1 _), rowL_all (fun x hx => hk x (List.mem_append_left _ hx)) (k' := 99) (fun x hx => by have := (h1 x hx).k1; omega)] at e1
  rw [row_eq os _ (cl_ok h2 _), rowL_all (fun x hx => hk x (List.mem_append_right _ hx)) (k' := 99) (fun x hx => by have := (h2 x hx).k1; omega)] at e2
  simp only [g_same_now, f_same_now, r_runD, List.map_cons, List.map_nil, List.replicate, List.cons_append, List.nil_append, List.append_nil, r_seq, r_if, r_asB, r_un, r_bin, r_name, at_0, at_s, om_some, om_none, ob_some, ob_none, i_t, i_f, i_tt, i_ff, Bool.false_eq_true, asB'_bl, r_orT, r_andT, r_notT, r_orE, r_andE, r_notE, r_ifE, Bool.not_true, Bool.not_false, r_nil, seq'_nx, seq'_rt, seq'_ct, seq'_bk, r_ret, r_set, r_lc, r_mapA, r_nilA, r_consA, r_call, r_c, r_par, r_evalK, r_evalK0, setLR, r_unp, r_mut, r_put, r_aug, r_for, r_iter, r_seqE, r_zip, r_yes, r_noPart, r_aPart, part'_int, r_sl, r_chain, r_chainB, wipR, List.set_cons_zero, List.set_cons_succ, outD_rt, outD_nx, eq_self, decide_true, decide_false, ltC_i, leC_i, gtC_i, geC_i, iadd_i, isub_i, subD_i, addD_i, negD_i, absD_i, intD_i, min2_i, isN_non, isN_i, isN_s, isN_b, isN_t, isNN_non, isNN_i, isNN_s, isNN_b, isNN_t, lenD_l, lenD_t, lenD_r, tupleD_l, tupleD_t, listD_l, listD_t, revD_l, revD_t, iterD_l, iterD_t, iterD_r, seqD_l, seqD_t, seqD_r, ixL1, ixT1, ix20, ix21, ix30, ix31, ix32, ix40, ix41, ix42, ix43, isi_t, isi_tn, isi_tb, isi_ti, isi_ts, isi_tl, isi_bn, isi_bb, isi_bi, isi_bs, isi_bt, isi_in, isi_ib, isi_ii, isi_is, isi_it, isi_sn, isi_sb, isi_si, isi_ss, isi_st, eq_ii, eq_ss, eq_nn, eq_sn, eq_ns, eq_bb, toB_some', lst1, ha, hc, hb, hm, e1, e2, eq_rows]
end K28
namespace K28
open PySem PySem.Spec PyProof.Rows L2 L3
theorem r_lc0 {b : BF} {t : Ro → M Bool} {el : Ro → M D} {ρ : Ro} {n : Nat} : lcGo b t el ρ [] n = some ([], n) := nr rfl
theorem r_bindN {i : Nat} {x : D} {ρ : Ro} : bindN i x ρ = some (ρ.set i (some x)) := nr rfl
/-! ### is it an entry -/
theorem name_run {x : Str} (h : nm x) (n : Nat) : g_is_name [.str x] n = some (.bl true, n) := by
  rcases h with rfl | rfl | rfl <;> kernel_rfl
theorem num_run (i : Int) (n : Nat) : g_is_number [.int i] n = some (.bl true, n) := by
  simp only [g_is_number, f_is_number, r_runD, List.map_cons, List.map_nil, List.replicate, List.cons_append, List.nil_append, List.append_nil, r_seq, r_if, r_asB, r_un, r_bin, r_name, at_0, at_s, om_some, om_none, ob_some, ob_none, i_t, i_f, i_tt, i_ff, Bool.false_eq_true, asB'_bl, r_orT, r_andT, r_notT, r_orE, r_andE, r_notE, r_ifE, Bool.not_true, Bool.not_false, r_nil, seq'_nx, seq'_rt, seq'_ct, seq'_bk, r_ret, r_set, r_lc, r_mapA, r_nilA, r_consA, r_call, r_c, r_par, r_evalK, r_evalK0, setLR, r_unp, r_mut, r_put, r_aug, r_for, r_iter, r_seqE, r_zip, r_yes, r_noPart, r_aPart, part'_int, r_sl, r_chain, r_chainB, wipR, List.set_cons_zero, List.set_cons_succ, outD_rt, outD_nx, eq_self, decide_true, decide_false, ltC_i, leC_i, gtC_i, geC_i, iadd_i, isub_i, subD_i, addD_i, negD_i, absD_i, intD_i, min2_i, isN_non, isN_i, isN_s, isN_b, isN_t, isNN_non, isNN_i, isNN_s, isNN_b, isNN_t, lenD_l, lenD_t, lenD_r, tupleD_l, tupleD_t, listD_l, listD_t, revD_l, revD_t, iterD_l, iterD_t, iterD_r, seqD_l, seqD_t, seqD_r, ixL1, ixT1, ix20, ix21, ix30, ix31, ix32, ix40, ix41, ix42, ix43, isi_t, isi_tn, isi_tb, isi_ti, isi_ts, isi_tl, isi_bn, isi_bb, isi_bi, isi_bs, isi_bt, isi_in, isi_ib, isi_ii, isi_is, isi_it, isi_sn, isi_sb, isi_si, isi_ss, isi_st, eq_ii, eq_ss, eq_nn, eq_sn, eq_ns, eq_bb, toB_some']
theorem tuple_run (x : En) (n : Nat) : g_is_tuple_of [x.d, .int 4] n = some (.bl true, n) := by
  have e : lenD x.d = some (.int 4) := nr rfl
  have e2 : isiD "tuple" x.d = some (.bl true) := isi_t
  simp only [g_is_tuple_of, f_is_tuple_of, r_runD, List.map_cons, List.map_nil, List.replicate, List.cons_append, List.nil_append, List.append_nil, r_seq, r_if, r_asB, r_un, r_bin, r_name, at_0, at_s, om_some, om_none, ob_some, ob_none, i_t, i_f, i_tt, i_ff, Bool.false_eq_true, asB'_bl, r_orT, r_andT, r_notT, r_orE, r_andE, r_notE, r_ifE, Bool.not_true, Bool.not_false, r_nil, seq'_nx, seq'_rt, seq'_ct, seq'_bk, r_ret, r_set, r_lc, r_mapA, r_nilA, r_consA, r_call, r_c, r_par, r_evalK, r_evalK0, setLR, r_unp, r_mut, r_put, r_aug, r_for, r_iter, r_seqE, r_zip, r_yes, r_noPart, r_aPart, part'_int, r_sl, r_chain, r_chainB, wipR, List.set_cons_zero, List.set_cons_succ, outD_rt, outD_nx, eq_self, decide_true, decide_false, ltC_i, leC_i, gtC_i, geC_i, iadd_i, isub_i, subD_i, addD_i, negD_i, absD_i, intD_i, min2_i, isN_non, isN_i, isN_s, isN_b, isN_t, isNN_non, isNN_i, isNN_s, isNN_b, isNN_t, lenD_l, lenD_t, lenD_r, tupleD_l, tupleD_t, listD_l, listD_t, revD_l, revD_t, iterD_l, iterD_t, iterD_r, seqD_l, seqD_t, seqD_r, ixL1, ixT1, ix20, ix21, ix30, ix31, ix32, ix40, ix41, ix42, ix43, isi_t, isi_tn, isi_tb, isi_ti, isi_ts, isi_tl, isi_bn, isi_bb, isi_bi, isi_bs, isi_bt, isi_in, isi_ib, isi_ii, isi_is, isi_it, isi_sn, isi_sb, isi_si, isi_ss, isi_st, eq_ii, eq_ss, eq_nn, eq_sn, eq_ns, eq_bb, toB_some', e, e2]
theorem entry_run {x : En} (h : nm x.t) (he : ∀ e, x.e = some e → x.b < e) (n : Nat) : g_is_entry [x.d] n = some (.bl true, n) := by
  have e0 : ixD x.d (.int 0) = some (.int x.b) := nr rfl
  have e1 : ixD x.d (.int 1) = some (oI x.e) := nr rfl
  have e2 : ixD x.d (.int 2) = some (.int x.k) := nr rfl
  have e3 : ixD x.d (.int 3) = some (.str x.t) := nr rfl
  cases hx : x.e with
  | none =>
    rw [hx, oI_n] at e1
    simp only [g_is_entry, f_is_entry, r_runD, List.map_cons, List.map_nil, List.replicate, List.cons_append, List.nil_append, List.append_nil, r_seq, r_if, r_asB, r_un, r_bin, r_name, at_0, at_s, om_some, om_none, ob_some, ob_none, i_t, i_f, i_tt, i_ff, Bool.false_eq_true, asB'_bl, r_orT, r_andT, r_notT, r_orE, r_andE, r_notE, r_ifE, Bool.not_true, Bool.not_false, r_nil, seq'_nx, seq'_rt, seq'_ct, seq'_bk, r_ret, r_set, r_lc, r_mapA, r_nilA, r_consA, r_call, r_c, r_par, r_evalK, r_evalK0, setLR, r_unp, r_mut, r_put, r_aug, r_for, r_iter, r_seqE, r_zip, r_yes, r_noPart, r_aPart, part'_int, r_sl, r_chain, r_chainB, wipR, List.set_cons_zero, List.set_cons_succ, outD_rt, outD_nx, eq_self, decide_true, decide_false, ltC_i, leC_i, gtC_i, geC_i, iadd_i, isub_i, subD_i, addD_i, negD_i, absD_i, intD_i, min2_i, isN_non, isN_i, isN_s, isN_b, isN_t, isNN_non, isNN_i, isNN_s, isNN_b, isNN_t, lenD_l, lenD_t, lenD_r, tupleD_l, tupleD_t, listD_l, listD_t, revD_l, revD_t, iterD_l, iterD_t, iterD_r, seqD_l, seqD_t, seqD_r, ixL1, ixT1, ix20, ix21, ix30, ix31, ix32, ix40, ix41, ix42, ix43, isi_t, isi_tn, isi_tb, isi_ti, isi_ts, isi_tl, isi_bn, isi_bb, isi_bi, isi_bs, isi_bt, isi_in, isi_ib, isi_ii, isi_is, isi_it, isi_sn, isi_sb, isi_si, isi_ss, isi_st, eq_ii, eq_ss, eq_nn, eq_sn, eq_ns, eq_bb, toB_some', tuple_run, num_run, name_run h, e0, e1, e2, e3]
  | some e =>
    rw [hx, oI_s] at e1
    have h1 := he e hx
    simp only [g_is_entry, f_is_entry, r_runD, List.map_cons, List.map_nil, List.replicate, List.cons_append, List.nil_append, List.append_nil, r_seq, r_if, r_asB, r_un, r_bin, r_name, at_0, at_s, om_some, om_none, ob_some, ob_none, i_t, i_f, i_tt, i_ff, Bool.false_eq_true, asB'_bl, r_orT, r_andT, r_notT, r_orE, r_andE, r_notE, r_ifE, Bool.not_true, Bool.not_false, r_nil, seq'_nx, seq'_rt, seq'_ct, seq'_bk, r_ret, r_set, r_lc, r_mapA, r_nilA, r_consA, r_call, r_c, r_par, r_evalK, r_evalK0, setLR, r_unp, r_mut, r_put, r_aug, r_for, r_iter, r_seqE, r_zip, r_yes, r_noPart, r_aPart, part'_int, r_sl, r_chain, r_chainB, wipR, List.set_cons_zero, List.set_cons_succ, outD_rt, outD_nx, eq_self, decide_true, decide_false, ltC_i, leC_i, gtC_i, geC_i, iadd_i, isub_i, subD_i, addD_i, negD_i, absD_i, intD_i, min2_i, isN_non, isN_i, isN_s, isN_b, isN_t, isNN_non, isNN_i, isNN_s, isNN_b, isNN_t, lenD_l, lenD_t, lenD_r, tupleD_l, tupleD_t, listD_l, listD_t, revD_l, revD_t, iterD_l, iterD_t, iterD_r, seqD_l, seqD_t, seqD_r, ixL1, ixT1, ix20, ix21, ix30, ix31, ix32, ix40, ix41, ix42, ix43, isi_t, isi_tn, isi_tb, isi_ti, isi_ts, isi_tl, isi_bn, isi_bb, isi_bi, isi_bs, isi_bt, isi_in, isi_ib, isi_ii, isi_is, isi_it, isi_sn, isi_sb, isi_si, isi_ss, isi_st, eq_ii, eq_ss, eq_nn, eq_sn, eq_ns, eq_bb, toB_some', tuple_run, num_run, name_run h, e0, e1, e2, e3, h1]
/-- what stands in for an entry -/
def bads : List D := [.tup [.int 3, .int 3, .int 0, .str "a"], .tup [.int 3, .int 2, .int 0, .str "a"], .tup [.bl true, .int 4, .int 0, .str "a"], .tup [.int 1, .non, .int 0], .lst [.int 1, .int 2, .int 0, .str "a"], .tup [.int 1, .str "2", .int 0, .str "a"], .tup [.int 0, .non, .non, .str "a"]]
theorem entry_bad {d : D} (h : d ∈ bads) (n : Nat) : g_is_entry [d] n = some (.bl false, n) := by
  simp only [bads, List.mem_cons, List.not_mem_nil, or_false] at h
  rcases h with rfl | rfl | rfl | rfl | rfl | rfl | rfl <;> kernel_rfl
abbrev bA : SF := (seqS (ifS (orT (notT (asB (un (nameE 1) (isiD "tuple")))) (asB (neE (lenE (nameE 1)) (cE (.int 4))))) (retS (cE (.bl false))) nilS) (seqS (ifS (asB (neE (lcE (seqE (mapA (consA (L3.bin (nameE 1) (cE (.int 0)) ixD) (consA (L3.bin (nameE 1) (cE (.int 2)) ixD) nilA)) tupD)) [2] (bindN 2) (orT (notT (asB (un (nameE 2) (isiD "int")))) (asB (un (nameE 2) (isiD "bool")))) (nameE 2)) (mapA nilA lstD))) (retS (cE (.bl false))) nilS) (seqS (ifS (andT (asB (L3.bin (L3.bin (nameE 1) (cE (.int 1)) ixD) (cE .non) isNN)) (orT (notT (asB (un (L3.bin (nameE 1) (cE (.int 1)) ixD) (isiD "int")))) (orT (asB (un (L3.bin (nameE 1) (cE (.int 1)) ixD) (isiD "bool"))) (asB (L3.bin (L3.bin (nameE 1) (cE (.int 1)) ixD) (L3.bin (nameE 1) (cE (.int 0)) ixD) leC))))) (retS (cE (.bl false))) nilS) nilS)))
theorem bA_bad {d : D} (h : d ∈ bads) (z : D) (n : Nat) : bA [some z, some d, none, none] n = some (.rt (.bl false), n) := by
  simp only [bads, List.mem_cons, List.not_mem_nil, or_false] at h
  rcases h with rfl | rfl | rfl | rfl | rfl | rfl | rfl <;> kernel_rfl
theorem bA_good {x : En} (he : ∀ e, x.e = some e → x.b < e) (z : D) (n : Nat) : bA [some z, some x.d, none, none] n = some (.nx [some z, some x.d, none, none], n) := by
  have e0 : ixD x.d (.int 0) = some (.int x.b) := nr rfl
  have e1 : ixD x.d (.int 1) = some (oI x.e) := nr rfl
  have e2 : ixD x.d (.int 2) = some (.int x.k) := nr rfl
  have e4 : lenD x.d = some (.int 4) := nr rfl
  have e5 : isiD "tuple" x.d = some (.bl true) := isi_t
  have hc := lcGo_map (b := bindN 2) (t := (orT (notT (asB (un (nameE 2) (isiD "int")))) (asB (un (nameE 2) (isiD "bool"))))) (el := nameE 2)
    (ρ := [some z, some x.d, none, none]) (n := n) D.int (fun i => [some z, some x.d, some (.int i), none]) (fun _ => false) D.int [x.b, x.k] (fun _ _ => rfl)
    (fun i _ => by simp only [r_runD, List.map_cons, List.map_nil, List.replicate, List.cons_append, List.nil_append, List.append_nil, r_seq, r_if, r_asB, r_un, r_bin, r_name, at_0, at_s, om_some, om_none, ob_some, ob_none, i_t, i_f, i_tt, i_ff, Bool.false_eq_true, asB'_bl, r_orT, r_andT, r_notT, r_orE, r_andE, r_notE, r_ifE, Bool.not_true, Bool.not_false, r_nil, seq'_nx, seq'_rt, seq'_ct, seq'_bk, r_ret, r_set, r_lc, r_mapA, r_nilA, r_consA, r_call, r_c, r_par, r_evalK, r_evalK0, setLR, r_unp, r_mut, r_put, r_aug, r_for, r_iter, r_seqE, r_zip, r_yes, r_noPart, r_aPart, part'_int, r_sl, r_chain, r_chainB, wipR, List.set_cons_zero, List.set_cons_succ, outD_rt, outD_nx, eq_self, decide_true, decide_false, ltC_i, leC_i, gtC_i, geC_i, iadd_i, isub_i, subD_i, addD_i, negD_i, absD_i, intD_i, min2_i, isN_non, isN_i, isN_s, isN_b, isN_t, isNN_non, isNN_i, isNN_s, isNN_b, isNN_t, lenD_l, lenD_t, lenD_r, tupleD_l, tupleD_t, listD_l, listD_t, revD_l, revD_t, iterD_l, iterD_t, iterD_r, seqD_l, seqD_t, seqD_r, ixL1, ixT1, ix20, ix21, ix30, ix31, ix32, ix40, ix41, ix42, ix43, isi_t, isi_tn, isi_tb, isi_ti, isi_ts, isi_tl, isi_bn, isi_bb, isi_bi, isi_bs, isi_bt, isi_in, isi_ib, isi_ii, isi_is, isi_it, isi_sn, isi_sb, isi_si, isi_ss, isi_st, eq_ii, eq_ss, eq_nn, eq_sn, eq_ns, eq_bb, toB_some']) (fun _ _ h => by cases h)
  have hf : ([x.b, x.k].filter fun _ => false) = [] := rfl
  rw [hf] at hc
  simp only [List.map_cons, List.map_nil] at hc
  have h0 := lst0
  cases hx : x.e with
  | none =>
    rw [hx, oI_n] at e1
    simp only [bA, r_runD, List.map_cons, List.map_nil, List.replicate, List.cons_append, List.nil_append, List.append_nil, r_seq, r_if, r_asB, r_un, r_bin, r_name, at_0, at_s, om_some, om_none, ob_some, ob_none, i_t, i_f, i_tt, i_ff, Bool.false_eq_true, asB'_bl, r_orT, r_andT, r_notT, r_orE, r_andE, r_notE, r_ifE, Bool.not_true, Bool.not_false, r_nil, seq'_nx, seq'_rt, seq'_ct, seq'_bk, r_ret, r_set, r_lc, r_mapA, r_nilA, r_consA, r_call, r_c, r_par, r_evalK, r_evalK0, setLR, r_unp, r_mut, r_put, r_aug, r_for, r_iter, r_seqE, r_zip, r_yes, r_noPart, r_aPart, part'_int, r_sl, r_chain, r_chainB, wipR, List.set_cons_zero, List.set_cons_succ, outD_rt, outD_nx, eq_self, decide_true, decide_false, ltC_i, leC_i, gtC_i, geC_i, iadd_i, isub_i, subD_i, addD_i, negD_i, absD_i, intD_i, min2_i, isN_non, isN_i, isN_s, isN_b, isN_t, isNN_non, isNN_i, isNN_s, isNN_b, isNN_t, lenD_l, lenD_t, lenD_r, tupleD_l, tupleD_t, listD_l, listD_t, revD_l, revD_t, iterD_l, iterD_t, iterD_r, seqD_l, seqD_t, seqD_r, ixL1, ixT1, ix20, ix21, ix30, ix31, ix32, ix40, ix41, ix42, ix43, isi_t, isi_tn, isi_tb, isi_ti, isi_ts, isi_tl, isi_bn, isi_bb, isi_bi, isi_bs, isi_bt, isi_in, isi_ib, isi_ii, isi_is, isi_it, isi_sn, isi_sb, isi_si, isi_ss, isi_st, eq_ii, eq_ss, eq_nn, eq_sn, eq_ns, eq_bb, toB_some', e0, e1, e2, e4, e5, tup2, hc, h0, eq00]
  | some e =>
    rw [hx, oI_s] at e1
    have h1 : ¬ (e ≤ x.b) := by have := he e hx; omega
    simp only [bA, r_runD, List.map_cons, List.map_nil, List.replicate, List.cons_append, List.nil_append, List.append_nil, r_seq, r_if, r_asB, r_un, r_bin, r_name, at_0, at_s, om_some, om_none, ob_some, ob_none, i_t, i_f, i_tt, i_ff, Bool.false_eq_true, asB'_bl, r_orT, r_andT, r_notT, r_orE, r_andE, r_notE, r_ifE, Bool.not_true, Bool.not_false, r_nil, seq'_nx, seq'_rt, seq'_ct, seq'_bk, r_ret, r_set, r_lc, r_mapA, r_nilA, r_consA, r_call, r_c, r_par, r_evalK, r_evalK0, setLR, r_unp, r_mut, r_put, r_aug, r_for, r_iter, r_seqE, r_zip, r_yes, r_noPart, r_aPart, part'_int, r_sl, r_chain, r_chainB, wipR, List.set_cons_zero, List.set_cons_succ, outD_rt, outD_nx, eq_self, decide_true, decide_false, ltC_i, leC_i, gtC_i, geC_i, iadd_i, isub_i, subD_i, addD_i, negD_i, absD_i, intD_i, min2_i, isN_non, isN_i, isN_s, isN_b, isN_t, isNN_non, isNN_i, isNN_s, isNN_b, isNN_t, lenD_l, lenD_t, lenD_r, tupleD_l, tupleD_t, listD_l, listD_t, revD_l, revD_t, iterD_l, iterD_t, iterD_r, seqD_l, seqD_t, seqD_r, ixL1, ixT1, ix20, ix21, ix30, ix31, ix32, ix40, ix41, ix42, ix43, isi_t, isi_tn, isi_tb, isi_ti, isi_ts, isi_tl, isi_bn, isi_bb, isi_bi, isi_bs, isi_bt, isi_in, isi_ib, isi_ii, isi_is, isi_it, isi_sn, isi_sb, isi_si, isi_ss, isi_st, eq_ii, eq_ss, eq_nn, eq_sn, eq_ns, eq_bb, toB_some', e0, e1, e2, e4, e5, tup2, hc, h0, eq00, h1]
/-! ### are they entries -/
def kk (es : List En) (i : Nat) : Int := ((es.map (·.k))[i]?).getD 0
def srt (es : List En) : Bool := (List.range (es.length - 1)).all fun i => decide (kk es i ≤ kk es (i + 1))
theorem kk_at {es : List En} {i : Nat} (h : i < es.length) : (ixD (.tup (es.map En.d)) (.int (i : Nat))).bind (fun d => ixD d (.int 2)) = some (.int (kk es i)) := by
  rw [ixT, List.getElem?_map, List.getElem?_eq_getElem h]
  unfold kk
  rw [List.getElem?_map, List.getElem?_eq_getElem h]; rfl
theorem kk_get {es : List En} {i : Nat} (h : i < es.length) : ∃ d, ixD (.tup (es.map En.d)) (.int (i : Nat)) = some d ∧ ixD d (.int 2) = some (.int (kk es i)) := by
  have := kk_at h
  cases hd : ixD (.tup (es.map En.d)) (.int (i : Nat)) with
  | none => rw [hd] at this; cases this
  | some d => rw [hd] at this; exact ⟨d, rfl, this⟩
structure EnA (x : En) : Prop where
  t : nm x.t
  e : ∀ e, x.e = some e → x.b < e
theorem allD_map {α : Type} (f : α → Bool) (l : List α) : allD (.lst (l.map fun a => .bl (f a))) = some (.bl (l.all f)) := by
  have e : (l.map fun a => D.bl (f a)) = (l.map f).map D.bl := by rw [List.map_map]; rfl
  show ((blsD (l.map fun a => D.bl (f a))).map fun ns => D.bl (ns.all id)) = _
  rw [e, blsD_map]
  simp [List.all_map]
theorem anyD_map {α : Type} (f : α → Bool) (l : List α) : anyD (.lst (l.map fun a => .bl (f a))) = some (.bl (l.any f)) := by
  have e : (l.map fun a => D.bl (f a)) = (l.map f).map D.bl := by rw [List.map_map]; rfl
  show ((blsD (l.map fun a => D.bl (f a))).map fun ns => D.bl (ns.any id)) = _
  rw [e, blsD_map]
  simp [List.any_map]
theorem filter_yes {α : Type} (l : List α) : (l.filter fun _ => true) = l := List.filter_eq_self.mpr fun _ _ => rfl
/-- the program's first question, item by item -/
theorem each_run {xs : List D} (f : D → Bool) (h : ∀ d ∈ xs, ∀ n, g_is_entry [d] n = some (.bl (f d), n)) (n : Nat) : lcGo (bindN 1) yesT (callE (consA (nameE 1) nilA) (g_is_entry)) [some (.tup xs), none, none] xs n = some (xs.map fun d => .bl (f d), n) := by
  have hc := lcGo_map (b := bindN 1) (t := yesT) (el := callE (consA (nameE 1) nilA) (g_is_entry)) (ρ := [some (.tup xs), none, none]) (n := n) (fun d : D => d) (fun d => [some (.tup xs), some d, none]) (fun _ => true) (fun d => .bl (f d)) xs (fun _ _ => rfl) (fun _ _ => rfl)
    (fun d hd _ => by simp only [r_runD, List.map_cons, List.map_nil, List.replicate, List.cons_append, List.nil_append, List.append_nil, r_seq, r_if, r_asB, r_un, r_bin, r_name, at_0, at_s, om_some, om_none, ob_some, ob_none, i_t, i_f, i_tt, i_ff, Bool.false_eq_true, asB'_bl, r_orT, r_andT, r_notT, r_orE, r_andE, r_notE, r_ifE, Bool.not_true, Bool.not_false, r_nil, seq'_nx, seq'_rt, seq'_ct, seq'_bk, r_ret, r_set, r_lc, r_mapA, r_nilA, r_consA, r_call, r_c, r_par, r_evalK, r_evalK0, setLR, r_unp, r_mut, r_put, r_aug, r_for, r_iter, r_seqE, r_zip, r_yes, r_noPart, r_aPart, part'_int, r_sl, r_chain, r_chainB, wipR, List.set_cons_zero, List.set_cons_succ, outD_rt, outD_nx, eq_self, decide_true, decide_false, h d hd])
  rw [List.map_id', filter_yes] at hc
  exact hc
theorem are_good (es : List En) (h : ∀ x ∈ es, EnA x) (hl : es.length ≤ 100) (n : Nat) : g_are_entries [.tup (es.map En.d)] n = some (.bl (srt es), n) := by
  have h1 := each_run (xs := es.map En.d) (fun _ => true) (fun d hd m => by
    obtain ⟨x, hx, rfl⟩ := List.mem_map.mp hd
    exact entry_run (h x hx).t (h x hx).e m) n
  have h2 := allD_map (fun _ : D => true) (es.map En.d)
  have h3 : (es.map En.d).all (fun _ : D => true) = true := by simp
  rw [h3] at h2
  have hr : rng1E (L3.bin (lenE (nameE 0)) (cE (.int 1)) subD) [some (.tup (es.map En.d)), none, none] n = some (rngD 0 ((es.length : Int) - 1), n) := rng1_run (by simp only [r_runD, List.map_cons, List.map_nil, List.replicate, List.cons_append, List.nil_append, List.append_nil, r_seq, r_if, r_asB, r_un, r_bin, r_name, at_0, at_s, om_some, om_none, ob_some, ob_none, i_t, i_f, i_tt, i_ff, Bool.false_eq_true, asB'_bl, r_orT, r_andT, r_notT, r_orE, r_andE, r_notE, r_ifE, Bool.not_true, Bool.not_false, r_nil, seq'_nx, seq'_rt, seq'_ct, seq'_bk, r_ret, r_set, r_lc, r_mapA, r_nilA, r_consA, r_call, r_c, r_par, r_evalK, r_evalK0, setLR, r_unp, r_mut, r_put, r_aug, r_for, r_iter, r_seqE, r_zip, r_yes, r_noPart, r_aPart, part'_int, r_sl, r_chain, r_chainB, wipR, List.set_cons_zero, List.set_cons_succ, outD_rt, outD_nx, eq_self, decide_true, decide_false, ltC_i, leC_i, gtC_i, geC_i, iadd_i, isub_i, subD_i, addD_i, negD_i, absD_i, intD_i, min2_i, isN_non, isN_i, isN_s, isN_b, isN_t, isNN_non, isNN_i, isNN_s, isNN_b, isNN_t, lenD_l, lenD_t, lenD_r, tupleD_l, tupleD_t, listD_l, listD_t, revD_l, revD_t, iterD_l, iterD_t, iterD_r, seqD_l, seqD_t, seqD_r, ixL1, ixT1, ix20, ix21, ix30, ix31, ix32, ix40, ix41, ix42, ix43, isi_t, isi_tn, isi_tb, isi_ti, isi_ts, isi_tl, isi_bn, isi_bb, isi_bi, isi_bs, isi_bt, isi_in, isi_ib, isi_ii, isi_is, isi_it, isi_sn, isi_sb, isi_si, isi_ss, isi_st, eq_ii, eq_ss, eq_nn, eq_sn, eq_ns, eq_bb, toB_some', List.length_map]) (by omega) (by omega)
  have hc := lcGo_map (b := bindN 2) (t := yesT) (el := L3.bin (L3.bin (L3.bin (nameE 0) (nameE 2) ixD) (cE (.int 2)) ixD) (L3.bin (L3.bin (nameE 0) (L3.bin (nameE 2) (cE (.int 1)) addD) ixD) (cE (.int 2)) ixD) leC) (ρ := [some (.tup (es.map En.d)), none, none]) (n := n)
    (fun i : Nat => D.int (0 + (i : Int))) (fun i => [some (.tup (es.map En.d)), none, some (.int (0 + (i : Int)))]) (fun _ => true) (fun i => .bl (decide (kk es i ≤ kk es (i + 1)))) (List.range (((es.length : Int) - 1) - 0).toNat) (fun _ _ => rfl) (fun _ _ => rfl)
    (fun i hi _ => by
      have hi : i < es.length - 1 := by have := List.mem_range.mp hi; omega
      obtain ⟨d, g1, g2⟩ := kk_get (es := es) (i := i) (by omega)
      obtain ⟨d', g3, g4⟩ := kk_get (es := es) (i := i + 1) (by omega)
      rw [show ((i : Nat) : Int) = (0 : Int) + (i : Int) by omega] at g1
      rw [show ((i + 1 : Nat) : Int) = (0 : Int) + (i : Int) + 1 by omega] at g3
      simp only [r_runD, List.map_cons, List.map_nil, List.replicate, List.cons_append, List.nil_append, List.append_nil, r_seq, r_if, r_asB, r_un, r_bin, r_name, at_0, at_s, om_some, om_none, ob_some, ob_none, i_t, i_f, i_tt, i_ff, Bool.false_eq_true, asB'_bl, r_orT, r_andT, r_notT, r_orE, r_andE, r_notE, r_ifE, Bool.not_true, Bool.not_false, r_nil, seq'_nx, seq'_rt, seq'_ct, seq'_bk, r_ret, r_set, r_lc, r_mapA, r_nilA, r_consA, r_call, r_c, r_par, r_evalK, r_evalK0, setLR, r_unp, r_mut, r_put, r_aug, r_for, r_iter, r_seqE, r_zip, r_yes, r_noPart, r_aPart, part'_int, r_sl, r_chain, r_chainB, wipR, List.set_cons_zero, List.set_cons_succ, outD_rt, outD_nx, eq_self, decide_true, decide_false, ltC_i, leC_i, gtC_i, geC_i, iadd_i, isub_i, subD_i, addD_i, negD_i, absD_i, intD_i, min2_i, isN_non, isN_i, isN_s, isN_b, isN_t, isNN_non, isNN_i, isNN_s, isNN_b, isNN_t, lenD_l, lenD_t, lenD_r, tupleD_l, tupleD_t, listD_l, listD_t, revD_l, revD_t, iterD_l, iterD_t, iterD_r, seqD_l, seqD_t, seqD_r, ixL1, ixT1, ix20, ix21, ix30, ix31, ix32, ix40, ix41, ix42, ix43, isi_t, isi_tn, isi_tb, isi_ti, isi_ts, isi_tl, isi_bn, isi_bb, isi_bi, isi_bs, isi_bt, isi_in, isi_ib, isi_ii, isi_is, isi_it, isi_sn, isi_sb, isi_si, isi_ss, isi_st, eq_ii, eq_ss, eq_nn, eq_sn, eq_ns, eq_bb, toB_some', g1, g2, g3, g4])
  rw [filter_yes] at hc
  have ha := allD_map (fun i : Nat => decide (kk es i ≤ kk es (i + 1))) (List.range (((es.length : Int) - 1) - 0).toNat)
  have hs : (List.range (((es.length : Int) - 1) - 0).toNat).all (fun i : Nat => decide (kk es i ≤ kk es (i + 1))) = srt es := by
    unfold srt; rw [show (((es.length : Int) - 1) - 0).toNat = es.length - 1 by omega]
  rw [hs] at ha
  have hd : rngD 0 ((es.length : Int) - 1) = (List.range (((es.length : Int) - 1) - 0).toNat).map fun i : Nat => D.int (0 + (i : Int)) := nr rfl
  rw [← hd] at hc
  simp only [g_are_entries, f_are_entries, r_runD, List.map_cons, List.map_nil, List.replicate, List.cons_append, List.nil_append, List.append_nil, r_seq, r_if, r_asB, r_un, r_bin, r_name, at_0, at_s, om_some, om_none, ob_some, ob_none, i_t, i_f, i_tt, i_ff, Bool.false_eq_true, asB'_bl, r_orT, r_andT, r_notT, r_orE, r_andE, r_notE, r_ifE, Bool.not_true, Bool.not_false, r_nil, seq'_nx, seq'_rt, seq'_ct, seq'_bk, r_ret, r_set, r_lc, r_mapA, r_nilA, r_consA, r_call, r_c, r_par, r_evalK, r_evalK0, setLR, r_unp, r_mut, r_put, r_aug, r_for, r_iter, r_seqE, r_zip, r_yes, r_noPart, r_aPart, part'_int, r_sl, r_chain, r_chainB, wipR, List.set_cons_zero, List.set_cons_succ, outD_rt, outD_nx, eq_self, decide_true, decide_false, ltC_i, leC_i, gtC_i, geC_i, iadd_i, isub_i, subD_i, addD_i, negD_i, absD_i, intD_i, min2_i, isN_non, isN_i, isN_s, isN_b, isN_t, isNN_non, isNN_i, isNN_s, isNN_b, isNN_t, lenD_l, lenD_t, lenD_r, tupleD_l, tupleD_t, listD_l, listD_t, revD_l, revD_t, iterD_l, iterD_t, iterD_r, seqD_l, seqD_t, seqD_r, ixL1, ixT1, ix20, ix21, ix30, ix31, ix32, ix40, ix41, ix42, ix43, isi_t, isi_tn, isi_tb, isi_ti, isi_ts, isi_tl, isi_bn, isi_bb, isi_bi, isi_bs, isi_bt, isi_in, isi_ib, isi_ii, isi_is, isi_it, isi_sn, isi_sb, isi_si, isi_ss, isi_st, eq_ii, eq_ss, eq_nn, eq_sn, eq_ns, eq_bb, toB_some', h1, h2, hr, hc, ha]
theorem are_bad {xs : List D} (f : D → Bool) (h : ∀ d ∈ xs, ∀ n, g_is_entry [d] n = some (.bl (f d), n)) (hb : ∃ d ∈ xs, f d = false) (n : Nat) : g_are_entries [.tup xs] n = some (.bl false, n) := by
  have h1 := each_run f h n
  have h2 := allD_map f xs
  have h3 : xs.all f = false := by
    obtain ⟨d, hd, e⟩ := hb
    exact List.all_eq_false.mpr ⟨d, hd, by simp [e]⟩
  rw [h3] at h2
  simp only [g_are_entries, f_are_entries, r_runD, List.map_cons, List.map_nil, List.replicate, List.cons_append, List.nil_append, List.append_nil, r_seq, r_if, r_asB, r_un, r_bin, r_name, at_0, at_s, om_some, om_none, ob_some, ob_none, i_t, i_f, i_tt, i_ff, Bool.false_eq_true, asB'_bl, r_orT, r_andT, r_notT, r_orE, r_andE, r_notE, r_ifE, Bool.not_true, Bool.not_false, r_nil, seq'_nx, seq'_rt, seq'_ct, seq'_bk, r_ret, r_set, r_lc, r_mapA, r_nilA, r_consA, r_call, r_c, r_par, r_evalK, r_evalK0, setLR, r_unp, r_mut, r_put, r_aug, r_for, r_iter, r_seqE, r_zip, r_yes, r_noPart, r_aPart, part'_int, r_sl, r_chain, r_chainB, wipR, List.set_cons_zero, List.set_cons_succ, outD_rt, outD_nx, eq_self, decide_true, decide_false, ltC_i, leC_i, gtC_i, geC_i, iadd_i, isub_i, subD_i, addD_i, negD_i, absD_i, intD_i, min2_i, isN_non, isN_i, isN_s, isN_b, isN_t, isNN_non, isNN_i, isNN_s, isNN_b, isNN_t, lenD_l, lenD_t, lenD_r, tupleD_l, tupleD_t, listD_l, listD_t, revD_l, revD_t, iterD_l, iterD_t, iterD_r, seqD_l, seqD_t, seqD_r, ixL1, ixT1, ix20, ix21, ix30, ix31, ix32, ix40, ix41, ix42, ix43, isi_t, isi_tn, isi_tb, isi_ti, isi_ts, isi_tl, isi_bn, isi_bb, isi_bi, isi_bs, isi_bt, isi_in, isi_ib, isi_ii, isi_is, isi_it, isi_sn, isi_sb, isi_si, isi_ss, isi_st, eq_ii, eq_ss, eq_nn, eq_sn, eq_ns, eq_bb, toB_some', h1, h2]
theorem are_no {d : D} (h : isiD "tuple" d = some (.bl false)) (n : Nat) : g_are_entries [d] n = some (.bl false, n) ∧ g_law_are [d] n = some (.bl false, n) := by
  refine ⟨?_, ?_⟩
  · simp only [g_are_entries, f_are_entries, r_runD, List.map_cons, List.map_nil, List.replicate, List.cons_append, List.nil_append, List.append_nil, r_seq, r_if, r_asB, r_un, r_bin, r_name, at_0, at_s, om_some, om_none, ob_some, ob_none, i_t, i_f, i_tt, i_ff, Bool.false_eq_true, asB'_bl, r_orT, r_andT, r_notT, r_orE, r_andE, r_notE, r_ifE, Bool.not_true, Bool.not_false, r_nil, seq'_nx, seq'_rt, seq'_ct, seq'_bk, r_ret, r_set, r_lc, r_mapA, r_nilA, r_consA, r_call, r_c, r_par, r_evalK, r_evalK0, setLR, r_unp, r_mut, r_put, r_aug, r_for, r_iter, r_seqE, r_zip, r_yes, r_noPart, r_aPart, part'_int, r_sl, r_chain, r_chainB, wipR, List.set_cons_zero, List.set_cons_succ, outD_rt, outD_nx, eq_self, decide_true, decide_false, ltC_i, leC_i, gtC_i, geC_i, iadd_i, isub_i, subD_i, addD_i, negD_i, absD_i, intD_i, min2_i, isN_non, isN_i, isN_s, isN_b, isN_t, isNN_non, isNN_i, isNN_s, isNN_b, isNN_t, lenD_l, lenD_t, lenD_r, tupleD_l, tupleD_t, listD_l, listD_t, revD_l, revD_t, iterD_l, iterD_t, iterD_r, seqD_l, seqD_t, seqD_r, ixL1, ixT1, ix20, ix21, ix30, ix31, ix32, ix40, ix41, ix42, ix43, isi_t, isi_tn, isi_tb, isi_ti, isi_ts, isi_tl, isi_bn, isi_bb, isi_bi, isi_bs, isi_bt, isi_in, isi_ib, isi_ii, isi_is, isi_it, isi_sn, isi_sb, isi_si, isi_ss, isi_st, eq_ii, eq_ss, eq_nn, eq_sn, eq_ns, eq_bb, toB_some', h]
  · simp only [g_law_are, f_law_are, r_runD, List.map_cons, List.map_nil, List.replicate, List.cons_append, List.nil_append, List.append_nil, r_seq, r_if, r_asB, r_un, r_bin, r_name, at_0, at_s, om_some, om_none, ob_some, ob_none, i_t, i_f, i_tt, i_ff, Bool.false_eq_true, asB'_bl, r_orT, r_andT, r_notT, r_orE, r_andE, r_notE, r_ifE, Bool.not_true, Bool.not_false, r_nil, seq'_nx, seq'_rt, seq'_ct, seq'_bk, r_ret, r_set, r_lc, r_mapA, r_nilA, r_consA, r_call, r_c, r_par, r_evalK, r_evalK0, setLR, r_unp, r_mut, r_put, r_aug, r_for, r_iter, r_seqE, r_zip, r_yes, r_noPart, r_aPart, part'_int, r_sl, r_chain, r_chainB, wipR, List.set_cons_zero, List.set_cons_succ, outD_rt, outD_nx, eq_self, decide_true, decide_false, ltC_i, leC_i, gtC_i, geC_i, iadd_i, isub_i, subD_i, addD_i, negD_i, absD_i, intD_i, min2_i, isN_non, isN_i, isN_s, isN_b, isN_t, isNN_non, isNN_i, isNN_s, isNN_b, isNN_t, lenD_l, lenD_t, lenD_r, tupleD_l, tupleD_t, listD_l, listD_t, revD_l, revD_t, iterD_l, iterD_t, iterD_r, seqD_l, seqD_t, seqD_r, ixL1, ixT1, ix20, ix21, ix30, ix31, ix32, ix40, ix41, ix42, ix43, isi_t, isi_tn, isi_tb, isi_ti, isi_ts, isi_tl, isi_bn, isi_bb, isi_bi, isi_bs, isi_bt, isi_in, isi_ib, isi_ii, isi_is, isi_it, isi_sn, isi_sb, isi_si, isi_ss, isi_st, eq_ii, eq_ss, eq_nn, eq_sn, eq_ns, eq_bb, toB_some', h]
theorem loopS_nx {b : BF} {F : SF} {drop : List Nat} {x : D} {xs : List D} {ρ ρ1 ρ2 : Ro} {n n' : Nat} (h1 : b x ρ = some ρ1) (h2 : F ρ1 n = some (.nx ρ2, n')) : loopS b drop F (x :: xs) ρ n = loopS b drop F xs (wipR ρ2 drop) n' := by
  show ((b x ρ).map fun a => (a, n)).bind _ = _
  rw [h1]
  show (F ρ1 n).bind _ = _
  rw [h2]; rfl
theorem loopS_rt {b : BF} {F : SF} {drop : List Nat} {x : D} {xs : List D} {ρ ρ1 : Ro} {n n' : Nat} {d : D} (h1 : b x ρ = some ρ1) (h2 : F ρ1 n = some (.rt d, n')) : loopS b drop F (x :: xs) ρ n = some (.rt d, n') := by
  show ((b x ρ).map fun a => (a, n)).bind _ = _
  rw [h1]
  show (F ρ1 n).bind _ = _
  rw [h2]; rfl
/-- the law's loop -/
theorem loop_good (es : List En) (h : ∀ x ∈ es, EnA x) (z : D) (r : List D) (n : Nat) : loopS (bindN 1) [1] bA (es.map En.d ++ r) [some z, none, none, none] n = loopS (bindN 1) [1] bA r [some z, none, none, none] n := by
  induction es with
  | nil => rfl
  | cons x es ih =>
    rw [List.map_cons, List.cons_append, loopS_nx (ρ1 := [some z, some x.d, none, none]) (nr rfl) (bA_good (h x List.mem_cons_self).e z n)]
    exact ih fun y hy => h y (List.mem_cons_of_mem _ hy)
theorem loop_bad {d : D} (h : d ∈ bads) (z : D) (r : List D) (n : Nat) : loopS (bindN 1) [1] bA (d :: r) [some z, none, none, none] n = some (.rt (.bl false), n) := by
  exact loopS_rt (ρ1 := [some z, some d, none, none]) (nr rfl) (bA_bad h z n)
theorem lare_bad (A B : List En) (hA : ∀ x ∈ A, EnA x) {d : D} (h : d ∈ bads) (n : Nat) : g_law_are [.tup (A.map En.d ++ d :: B.map En.d)] n = some (.bl false, n) := by
  have h1 := loop_good A hA (.tup (A.map En.d ++ d :: B.map En.d)) (d :: B.map En.d) n
  rw [loop_bad h] at h1
  simp only [bA] at h1
  simp only [g_law_are, f_law_are, r_runD, List.map_cons, List.map_nil, List.replicate, List.cons_append, List.nil_append, List.append_nil, r_seq, r_if, r_asB, r_un, r_bin, r_name, at_0, at_s, om_some, om_none, ob_some, ob_none, i_t, i_f, i_tt, i_ff, Bool.false_eq_true, asB'_bl, r_orT, r_andT, r_notT, r_orE, r_andE, r_notE, r_ifE, Bool.not_true, Bool.not_false, r_nil, seq'_nx, seq'_rt, seq'_ct, seq'_bk, r_ret, r_set, r_lc, r_mapA, r_nilA, r_consA, r_call, r_c, r_par, r_evalK, r_evalK0, setLR, r_unp, r_mut, r_put, r_aug, r_for, r_iter, r_seqE, r_zip, r_yes, r_noPart, r_aPart, part'_int, r_sl, r_chain, r_chainB, wipR, List.set_cons_zero, List.set_cons_succ, outD_rt, outD_nx, eq_self, decide_true, decide_false, ltC_i, leC_i, gtC_i, geC_i, iadd_i, isub_i, subD_i, addD_i, negD_i, absD_i, intD_i, min2_i, isN_non, isN_i, isN_s, isN_b, isN_t, isNN_non, isNN_i, isNN_s, isNN_b, isNN_t, lenD_l, lenD_t, lenD_r, tupleD_l, tupleD_t, listD_l, listD_t, revD_l, revD_t, iterD_l, iterD_t, iterD_r, seqD_l, seqD_t, seqD_r, ixL1, ixT1, ix20, ix21, ix30, ix31, ix32, ix40, ix41, ix42, ix43, isi_t, isi_tn, isi_tb, isi_ti, isi_ts, isi_tl, isi_bn, isi_bb, isi_bi, isi_bs, isi_bt, isi_in, isi_ib, isi_ii, isi_is, isi_it, isi_sn, isi_sb, isi_si, isi_ss, isi_st, eq_ii, eq_ss, eq_nn, eq_sn, eq_ns, eq_bb, toB_some', h1]
theorem filter_all {α : Type} (p : α → Bool) (l : List α) : (l.filter p).isEmpty = l.all fun x => !p x := by
  induction l with
  | nil => rfl
  | cons a l ih =>
    cases h : p a with
    | true => simp [h]
    | false => simp only [List.filter_cons, h, Bool.false_eq_true, if_false, List.all_cons, Bool.not_false, Bool.true_and]; exact ih
theorem srt_eq (es : List En) : (((List.range (es.length - 1)).filter fun i => decide (kk es (i + 1) < kk es i)).map fun i : Nat => D.int (1 + (i : Int))).isEmpty = srt es := by
  rw [List.isEmpty_map, filter_all]
  have : (fun i => !decide (kk es (i + 1) < kk es i)) = fun i => decide (kk es i ≤ kk es (i + 1)) := by
    funext i
    by_cases hk : kk es i ≤ kk es (i + 1)
    · rw [decide_eq_true hk, decide_eq_false (Int.not_lt.mpr hk)]; rfl
    · rw [decide_eq_false hk, decide_eq_true (Int.not_le.mp hk)]; rfl
  rw [this]; rfl
theorem lare_good (es : List En) (h : ∀ x ∈ es, EnA x) (hl : es.length ≤ 100) (n : Nat) : g_law_are [.tup (es.map En.d)] n = some (.bl (srt es), n) := by
  have h1 := loop_good es h (.tup (es.map En.d)) [] n
  rw [List.append_nil] at h1
  have h1' : loopS (bindN 1) [1] bA (es.map En.d) [some (.tup (es.map En.d)), none, none, none] n = some (.nx [some (.tup (es.map En.d)), none, none, none], n) := h1
  simp only [bA] at h1'
  have hr : rng2E (cE (.int 1)) (lenE (nameE 0)) [some (.tup (es.map En.d)), none, none, none] n = some (rngD 1 (es.length : Int), n) := rng2_run r_c (by simp only [r_runD, List.map_cons, List.map_nil, List.replicate, List.cons_append, List.nil_append, List.append_nil, r_seq, r_if, r_asB, r_un, r_bin, r_name, at_0, at_s, om_some, om_none, ob_some, ob_none, i_t, i_f, i_tt, i_ff, Bool.false_eq_true, asB'_bl, r_orT, r_andT, r_notT, r_orE, r_andE, r_notE, r_ifE, Bool.not_true, Bool.not_false, r_nil, seq'_nx, seq'_rt, seq'_ct, seq'_bk, r_ret, r_set, r_lc, r_mapA, r_nilA, r_consA, r_call, r_c, r_par, r_evalK, r_evalK0, setLR, r_unp, r_mut, r_put, r_aug, r_for, r_iter, r_seqE, r_zip, r_yes, r_noPart, r_aPart, part'_int, r_sl, r_chain, r_chainB, wipR, List.set_cons_zero, List.set_cons_succ, outD_rt, outD_nx, eq_self, decide_true, decide_false, ltC_i, leC_i, gtC_i, geC_i, iadd_i, isub_i, subD_i, addD_i, negD_i, absD_i, intD_i, min2_i, isN_non, isN_i, isN_s, isN_b, isN_t, isNN_non, isNN_i, isNN_s, isNN_b, isNN_t, lenD_l, lenD_t, lenD_r, tupleD_l, tupleD_t, listD_l, listD_t, revD_l, revD_t, iterD_l, iterD_t, iterD_r, seqD_l, seqD_t, seqD_r, ixL1, ixT1, ix20, ix21, ix30, ix31, ix32, ix40, ix41, ix42, ix43, isi_t, isi_tn, isi_tb, isi_ti, isi_ts, isi_tl, isi_bn, isi_bb, isi_bi, isi_bs, isi_bt, isi_in, isi_ib, isi_ii, isi_is, isi_it, isi_sn, isi_sb, isi_si, isi_ss, isi_st, eq_ii, eq_ss, eq_nn, eq_sn, eq_ns, eq_bb, toB_some', List.length_map]) (by decide) (by omega) (by omega)
  have hc := lcGo_map (b := bindN 3) (t := (asB (L3.bin (L3.bin (L3.bin (nameE 0) (L3.bin (nameE 3) (cE (.int 1)) subD) ixD) (cE (.int 2)) ixD) (L3.bin (L3.bin (nameE 0) (nameE 3) ixD) (cE (.int 2)) ixD) gtC))) (el := nameE 3) (ρ := [some (.tup (es.map En.d)), none, none, none]) (n := n)
    (fun i : Nat => D.int (1 + (i : Int))) (fun i => [some (.tup (es.map En.d)), none, none, some (.int (1 + (i : Int)))]) (fun i => decide (kk es (i + 1) < kk es i)) (fun i => .int (1 + (i : Int))) (List.range ((es.length : Int) - 1).toNat) (fun _ _ => rfl)
    (fun i hi => by
      have hi : i < es.length - 1 := by have := List.mem_range.mp hi; omega
      obtain ⟨d, g1, g2⟩ := kk_get (es := es) (i := i) (by omega)
      obtain ⟨d', g3, g4⟩ := kk_get (es := es) (i := i + 1) (by omega)
      rw [show ((i : Nat) : Int) = (1 : Int) + (i : Int) - 1 by omega] at g1
      rw [show ((i + 1 : Nat) : Int) = (1 : Int) + (i : Int) by omega] at g3
      simp only [r_runD, List.map_cons, List.map_nil, List.replicate, List.cons_append, List.nil_append, List.append_nil, r_seq, r_if, r_asB, r_un, r_bin, r_name, at_0, at_s, om_some, om_none, ob_some, ob_none, i_t, i_f, i_tt, i_ff, Bool.false_eq_true, asB'_bl, r_orT, r_andT, r_notT, r_orE, r_andE, r_notE, r_ifE, Bool.not_true, Bool.not_false, r_nil, seq'_nx, seq'_rt, seq'_ct, seq'_bk, r_ret, r_set, r_lc, r_mapA, r_nilA, r_consA, r_call, r_c, r_par, r_evalK, r_evalK0, setLR, r_unp, r_mut, r_put, r_aug, r_for, r_iter, r_seqE, r_zip, r_yes, r_noPart, r_aPart, part'_int, r_sl, r_chain, r_chainB, wipR, List.set_cons_zero, List.set_cons_succ, outD_rt, outD_nx, eq_self, decide_true, decide_false, ltC_i, leC_i, gtC_i, geC_i, iadd_i, isub_i, subD_i, addD_i, negD_i, absD_i, intD_i, min2_i, isN_non, isN_i, isN_s, isN_b, isN_t, isNN_non, isNN_i, isNN_s, isNN_b, isNN_t, lenD_l, lenD_t, lenD_r, tupleD_l, tupleD_t, listD_l, listD_t, revD_l, revD_t, iterD_l, iterD_t, iterD_r, seqD_l, seqD_t, seqD_r, ixL1, ixT1, ix20, ix21, ix30, ix31, ix32, ix40, ix41, ix42, ix43, isi_t, isi_tn, isi_tb, isi_ti, isi_ts, isi_tl, isi_bn, isi_bb, isi_bi, isi_bs, isi_bt, isi_in, isi_ib, isi_ii, isi_is, isi_it, isi_sn, isi_sb, isi_si, isi_ss, isi_st, eq_ii, eq_ss, eq_nn, eq_sn, eq_ns, eq_bb, toB_some', g1, g2, g3, g4])
    (fun i _ _ => by simp only [r_runD, List.map_cons, List.map_nil, List.replicate, List.cons_append, List.nil_append, List.append_nil, r_seq, r_if, r_asB, r_un, r_bin, r_name, at_0, at_s, om_some, om_none, ob_some, ob_none, i_t, i_f, i_tt, i_ff, Bool.false_eq_true, asB'_bl, r_orT, r_andT, r_notT, r_orE, r_andE, r_notE, r_ifE, Bool.not_true, Bool.not_false, r_nil, seq'_nx, seq'_rt, seq'_ct, seq'_bk, r_ret, r_set, r_lc, r_mapA, r_nilA, r_consA, r_call, r_c, r_par, r_evalK, r_evalK0, setLR, r_unp, r_mut, r_put, r_aug, r_for, r_iter, r_seqE, r_zip, r_yes, r_noPart, r_aPart, part'_int, r_sl, r_chain, r_chainB, wipR, List.set_cons_zero, List.set_cons_succ, outD_rt, outD_nx, eq_self, decide_true, decide_false])
  have hd : rngD 1 (es.length : Int) = (List.range ((es.length : Int) - 1).toNat).map fun i : Nat => D.int (1 + (i : Int)) := nr rfl
  rw [← hd] at hc
  have he := eq_nil (plainL_map (fun i : Nat => D.int (1 + (i : Int))) (fun _ => rfl) ((List.range ((es.length : Int) - 1).toNat).filter fun i => decide (kk es (i + 1) < kk es i)))
  have hs : (((List.range ((es.length : Int) - 1).toNat).filter fun i => decide (kk es (i + 1) < kk es i)).map fun i : Nat => D.int (1 + (i : Int))).isEmpty = srt es := by
    have e1 : ((es.length : Int) - 1).toNat = es.length - 1 := by omega
    rw [e1]
    exact srt_eq es
  rw [hs] at he
  have h0 := lst0
  simp only [g_law_are, f_law_are, r_runD, List.map_cons, List.map_nil, List.replicate, List.cons_append, List.nil_append, List.append_nil, r_seq, r_if, r_asB, r_un, r_bin, r_name, at_0, at_s, om_some, om_none, ob_some, ob_none, i_t, i_f, i_tt, i_ff, Bool.false_eq_true, asB'_bl, r_orT, r_andT, r_notT, r_orE, r_andE, r_notE, r_ifE, Bool.not_true, Bool.not_false, r_nil, seq'_nx, seq'_rt, seq'_ct, seq'_bk, r_ret, r_set, r_lc, r_mapA, r_nilA, r_consA, r_call, r_c, r_par, r_evalK, r_evalK0, setLR, r_unp, r_mut, r_put, r_aug, r_for, r_iter, r_seqE, r_zip, r_yes, r_noPart, r_aPart, part'_int, r_sl, r_chain, r_chainB, wipR, List.set_cons_zero, List.set_cons_succ, outD_rt, outD_nx, eq_self, decide_true, decide_false, ltC_i, leC_i, gtC_i, geC_i, iadd_i, isub_i, subD_i, addD_i, negD_i, absD_i, intD_i, min2_i, isN_non, isN_i, isN_s, isN_b, isN_t, isNN_non, isNN_i, isNN_s, isNN_b, isNN_t, lenD_l, lenD_t, lenD_r, tupleD_l, tupleD_t, listD_l, listD_t, revD_l, revD_t, iterD_l, iterD_t, iterD_r, seqD_l, seqD_t, seqD_r, ixL1, ixT1, ix20, ix21, ix30, ix31, ix32, ix40, ix41, ix42, ix43, isi_t, isi_tn, isi_tb, isi_ti, isi_ts, isi_tl, isi_bn, isi_bb, isi_bi, isi_bs, isi_bt, isi_in, isi_ib, isi_ii, isi_is, isi_it, isi_sn, isi_sb, isi_si, isi_ss, isi_st, eq_ii, eq_ss, eq_nn, eq_sn, eq_ns, eq_bb, toB_some', h1', hr, hc, h0, he]
end K28
namespace K28
open PySem PySem.Spec PyProof.Rows L2 L3
/-! ### what changed back -/
def lastOf (x : En) : Int := match x.e with
  | none => x.k
  | some e => if x.k < e then x.k else e
def tD (p : Int × Int × Int) : D := .tup [.int p.1, .int p.2.1, .int p.2.2]
def days (es : List En) (i : Nat) (x : En) : List Int := sortU (((cuts (es.take i) x.k) ++ [x.b]).filter fun d => decide (x.b ≤ d) && decide (d < lastOf x))
def off (es : List En) (i : Nat) (x : En) (d : Int) : Bool := !decide (held (es.take i) d x.k = some x.t)
def chgP (es : List En) (i : Nat) (x : En) : Bool := decide (x.b < lastOf x) && (days es i x).any (off es i x)
def chgL (es : List En) (i : Nat) (x : En) : Bool := !((List.range (lastOf x - x.b).toNat).filter fun j : Nat => off es i x (x.b + (j : Int))).isEmpty
theorem chg_eq (es : List En) (i : Nat) (x : En) : chgP es i x = chgL es i x := by
  rw [Bool.eq_iff_iff]
  unfold chgP chgL
  rw [Bool.and_eq_true, decide_eq_true_eq, List.any_eq_true]
  have hL : (!((List.range (lastOf x - x.b).toNat).filter fun j : Nat => off es i x (x.b + (j : Int))).isEmpty) = true ↔ ∃ d, x.b ≤ d ∧ d < lastOf x ∧ off es i x d = true := by
    rw [filter_all, Bool.not_eq_true', List.all_eq_false]
    constructor
    · rintro ⟨j, hj, hc⟩
      have := List.mem_range.mp hj
      exact ⟨x.b + (j : Int), by omega, by omega, by simpa using hc⟩
    · rintro ⟨d, h1, h2, h3⟩
      refine ⟨(d - x.b).toNat, List.mem_range.mpr (by omega), ?_⟩
      rw [show x.b + ((d - x.b).toNat : Int) = d by omega, h3]; simp
  rw [hL]
  constructor
  · rintro ⟨_, d, hd, ho⟩
    have := mem_sortU.mp hd
    have := (List.mem_filter.mp this).2
    simp only [Bool.and_eq_true, decide_eq_true_eq] at this
    exact ⟨d, this.1, this.2, ho⟩
  · rintro ⟨d, h1, h2, h3⟩
    refine ⟨by omega, ?_⟩
    -- the last cut, or the begin, at or ahead of d
    let S := (cl (es.take i) x.k).filter fun c => decide (c ≤ d)
    obtain ⟨m1, m2⟩ := foldl_max_mem S x.b
    let m := S.foldl max x.b
    have hm : x.b ≤ m := m2 x.b List.mem_cons_self
    have hmd : m ≤ d := by
      rcases List.mem_cons.mp m1 with e | h
      · show S.foldl max x.b ≤ d; omega
      · have := (List.mem_filter.mp h).2
        simpa using this
    have hc : held (es.take i) m x.k = held (es.take i) d x.k := held_const hmd fun c hc z => by
      have : c ∈ S := List.mem_filter.mpr ⟨hc, by simpa using z.2⟩
      have := m2 c (List.mem_cons_of_mem _ this)
      have : c ≤ m := this
      omega
    refine ⟨m, mem_sortU.mpr (List.mem_filter.mpr ⟨?_, by simp only [Bool.and_eq_true, decide_eq_true_eq]; omega⟩), ?_⟩
    · rcases List.mem_cons.mp m1 with e | h
      · exact List.mem_append_right _ (by rw [show m = x.b from e]; simp)
      · exact List.mem_append_left _ (mem_sortU.mpr (List.mem_filter.mp h).1)
    · unfold off at h3 ⊢
      rw [hc]; exact h3
def stepC (c : Nat → En → Bool) (es : List En) (f : List (Int × Int × Int)) (i : Nat) : List (Int × Int × Int) := match es[i]? with
  | some x => if c i x = true then f ++ [(x.k, x.b, lastOf x)] else f
  | none => f
def back (es : List En) : List (Int × Int × Int) := (List.range es.length).foldl (stepC (chgL es) es) []
theorem cutD_take {α : Type} (xs : List α) (i : Nat) : L3.cutD xs none (some ((0 : Int) + (i : Int))) = xs.take i := by
  rw [show (0 : Int) + (i : Int) = ((i : Nat) : Int) by omega]
  unfold L3.cutD
  rw [HT.sIx_none, HT.sIx_nat, List.drop_zero, Nat.sub_zero, ← List.take_eq_take_min]
theorem sl_take (es : List En) (i : Nat) : slD (.tup (es.map En.d)) none (some ((0 : Int) + (i : Int))) = some (.tup ((es.take i).map En.d)) := by
  show some (D.tup (L3.cutD (es.map En.d) none (some ((0 : Int) + (i : Int))))) = _
  rw [cutD_map, cutD_take]
theorem ix_en {es : List En} {i : Nat} {x : En} (h : es[i]? = some x) : ixD (.tup (es.map En.d)) (.int ((0 : Int) + (i : Int))) = some x.d := by
  rw [show (0 : Int) + (i : Int) = ((i : Nat) : Int) by omega, ixT, List.getElem?_map, h]; rfl
theorem back_run (es : List En) (hl : es.length ≤ 30) (n : Nat) : g_changed_back [.tup (es.map En.d)] n = (sortD (.lst ((back es).map tD))).bind fun d => (tupleD d).map fun z => (z, n) := by
  have h0 := lst0
  obtain ⟨h1, _⟩ := loopS_foldI (n := n) (b := bindN 2) (drop := [2, 3, 4, 5, 6, 7, 8])
    (F := (seqS (unpS (L3.bin (nameE 0) (nameE 2) ixD) (bindT ((bindN 3) :: ((bindN 4) :: ((bindN 5) :: ((bindN 6) :: [])))))) (seqS (setS 7 (ifE (asB (L3.bin (nameE 4) (cE .non) isN)) (nameE 5) (L3.bin (nameE 4) (nameE 5) min2D))) (seqS (ifS (asB (L3.bin (nameE 3) (nameE 7) ltC)) (seqS (setS 8 (un (lcE (seqE (L3.bin (callE (consA (sl (nameE 0) noPart (aPart (nameE 2))) (consA (nameE 5) nilA)) (g_cuts_of)) (mapA (consA (nameE 3) nilA) lstD) addD)) [9] (bindN 9) (asB (chainE (nameE 3) (nameE 9) (nameE 7) leC ltC)) (nameE 9)) sortSetD)) (seqS (ifS (asB (un (lcE (seqE (nameE 8)) [9] (bindN 9) yesT (neE (callE (consA (sl (nameE 0) noPart (aPart (nameE 2))) (consA (nameE 9) (consA (nameE 5) nilA))) (g_held)) (nameE 6))) anyD)) (seqS (mutS 1 (mapA (consA (nameE 5) (consA (nameE 3) (consA (nameE 7) nilA))) tupD) appD) nilS) nilS) nilS)) nilS) nilS))))
    (fun i : Nat => D.int (0 + (i : Int))) (fun f : List (Int × Int × Int) => [some (.tup (es.map En.d)), some (.lst (f.map tD)), none, none, none, none, none, none, none, none]) (stepC (chgL es) es) (fun i f => f.length ≤ i) (List.range es.length) 0 [] (Nat.zero_le _)
    (fun i j hj f hI => by
      have hjj : i < es.length ∧ j = i := by
        obtain ⟨a, b⟩ := List.getElem?_eq_some_iff.mp hj
        rw [List.getElem_range] at b
        exact ⟨by simpa using a, b.symm⟩
      obtain ⟨hi, rfl⟩ := hjj
      obtain ⟨x, hx⟩ : ∃ x, es[j]? = some x := ⟨es[j], List.getElem?_eq_getElem hi⟩
      have e1 := ix_en hx
      have e2 := sl_take es j
      have eb : stepC (chgL es) es f j = if chgP es j x = true then f ++ [(x.k, x.b, lastOf x)] else f := by unfold stepC; rw [hx, chg_eq]
      rw [eb]
      have hlt : (es.take j).length ≤ 30 := by rw [List.length_take]; omega
      have e3 := cuts_run (es.take j) x.k n hlt
      have hb : bindT ((bindN 3) :: ((bindN 4) :: ((bindN 5) :: ((bindN 6) :: [])))) x.d [some (.tup (es.map En.d)), some (.lst (f.map tD)), some (.int (0 + (j : Int))), none, none, none, none, none, none, none] = some [some (.tup (es.map En.d)), some (.lst (f.map tD)), some (.int (0 + (j : Int))), some (.int x.b), some (oI x.e), some (.int x.k), some (.str x.t), none, none, none] := nr rfl
      have hlast : ∀ ρ : Ro, at' ρ 4 = some (oI x.e) → at' ρ 5 = some (.int x.k) → ifE (asB (L3.bin (nameE 4) (cE .non) isN)) (nameE 5) (L3.bin (nameE 4) (nameE 5) min2D) ρ n = some (.int (lastOf x), n) := fun ρ g1 g2 => by
        unfold lastOf
        cases he : x.e with
        | none => rw [he, oI_n] at g1; simp only [r_runD, List.map_cons, List.map_nil, List.replicate, List.cons_append, List.nil_append, List.append_nil, r_seq, r_if, r_asB, r_un, r_bin, r_name, at_0, at_s, om_some, om_none, ob_some, ob_none, i_t, i_f, i_tt, i_ff, Bool.false_eq_true, asB'_bl, r_orT, r_andT, r_notT, r_orE, r_andE, r_notE, r_ifE, Bool.not_true, Bool.not_false, r_nil, seq'_nx, seq'_rt, seq'_ct, seq'_bk, r_ret, r_set, r_lc, r_mapA, r_nilA, r_consA, r_call, r_c, r_par, r_evalK, r_evalK0, setLR, r_unp, r_mut, r_put, r_aug, r_for, r_iter, r_seqE, r_zip, r_yes, r_noPart, r_aPart, part'_int, r_sl, r_chain, r_chainB, wipR, List.set_cons_zero, List.set_cons_succ, outD_rt, outD_nx, eq_self, decide_true, decide_false, ltC_i, leC_i, gtC_i, geC_i, iadd_i, isub_i, subD_i, addD_i, negD_i, absD_i, intD_i, min2_i, isN_non, isN_i, isN_s, isN_b, isN_t, isNN_non, isNN_i, isNN_s, isNN_b, isNN_t, lenD_l, lenD_t, lenD_r, tupleD_l, tupleD_t, listD_l, listD_t, revD_l, revD_t, iterD_l, iterD_t, iterD_r, seqD_l, seqD_t, seqD_r, ixL1, ixT1, ix20, ix21, ix30, ix31, ix32, ix40, ix41, ix42, ix43, isi_t, isi_tn, isi_tb, isi_ti, isi_ts, isi_tl, isi_bn, isi_bb, isi_bi, isi_bs, isi_bt, isi_in, isi_ib, isi_ii, isi_is, isi_it, isi_sn, isi_sb, isi_si, isi_ss, isi_st, eq_ii, eq_ss, eq_nn, eq_sn, eq_ns, eq_bb, toB_some', g1, g2]
        | some e => rw [he, oI_s] at g1; simp only [r_runD, List.map_cons, List.map_nil, List.replicate, List.cons_append, List.nil_append, List.append_nil, r_seq, r_if, r_asB, r_un, r_bin, r_name, at_0, at_s, om_some, om_none, ob_some, ob_none, i_t, i_f, i_tt, i_ff, Bool.false_eq_true, asB'_bl, r_orT, r_andT, r_notT, r_orE, r_andE, r_notE, r_ifE, Bool.not_true, Bool.not_false, r_nil, seq'_nx, seq'_rt, seq'_ct, seq'_bk, r_ret, r_set, r_lc, r_mapA, r_nilA, r_consA, r_call, r_c, r_par, r_evalK, r_evalK0, setLR, r_unp, r_mut, r_put, r_aug, r_for, r_iter, r_seqE, r_zip, r_yes, r_noPart, r_aPart, part'_int, r_sl, r_chain, r_chainB, wipR, List.set_cons_zero, List.set_cons_succ, outD_rt, outD_nx, eq_self, decide_true, decide_false, ltC_i, leC_i, gtC_i, geC_i, iadd_i, isub_i, subD_i, addD_i, negD_i, absD_i, intD_i, min2_i, isN_non, isN_i, isN_s, isN_b, isN_t, isNN_non, isNN_i, isNN_s, isNN_b, isNN_t, lenD_l, lenD_t, lenD_r, tupleD_l, tupleD_t, listD_l, listD_t, revD_l, revD_t, iterD_l, iterD_t, iterD_r, seqD_l, seqD_t, seqD_r, ixL1, ixT1, ix20, ix21, ix30, ix31, ix32, ix40, ix41, ix42, ix43, isi_t, isi_tn, isi_tb, isi_ti, isi_ts, isi_tl, isi_bn, isi_bb, isi_bi, isi_bs, isi_bt, isi_in, isi_ib, isi_ii, isi_is, isi_it, isi_sn, isi_sb, isi_si, isi_ss, isi_st, eq_ii, eq_ss, eq_nn, eq_sn, eq_ns, eq_bb, toB_some', g1, g2]
      have hlast := hlast [some (.tup (es.map En.d)), some (.lst (f.map tD)), some (.int (0 + (j : Int))), some (.int x.b), some (oI x.e), some (.int x.k), some (.str x.t), none, none, none] (nr rfl) (nr rfl)
      simp only [r_runD, List.map_cons, List.map_nil, List.replicate, List.cons_append, List.nil_append, List.append_nil, r_seq, r_if, r_asB, r_un, r_bin, r_name, at_0, at_s, om_some, om_none, ob_some, ob_none, i_t, i_f, i_tt, i_ff, Bool.false_eq_true, asB'_bl, r_orT, r_andT, r_notT, r_orE, r_andE, r_notE, r_ifE, Bool.not_true, Bool.not_false, r_nil, seq'_nx, seq'_rt, seq'_ct, seq'_bk, r_ret, r_set, r_lc, r_mapA, r_nilA, r_consA, r_call, r_c, r_par, r_evalK, r_evalK0, setLR, r_unp, r_mut, r_put, r_aug, r_for, r_iter, r_seqE, r_zip, r_yes, r_noPart, r_aPart, part'_int, r_sl, r_chain, r_chainB, wipR, List.set_cons_zero, List.set_cons_succ, outD_rt, outD_nx, eq_self, decide_true, decide_false, ltC_i, leC_i, gtC_i, geC_i, iadd_i, isub_i, subD_i, addD_i, negD_i, absD_i, intD_i, min2_i, isN_non, isN_i, isN_s, isN_b, isN_t, isNN_non, isNN_i, isNN_s, isNN_b, isNN_t, lenD_l, lenD_t, lenD_r, tupleD_l, tupleD_t, listD_l, listD_t, revD_l, revD_t, iterD_l, iterD_t, iterD_r, seqD_l, seqD_t, seqD_r, ixL1, ixT1, ix20, ix21, ix30, ix31, ix32, ix40, ix41, ix42, ix43, isi_t, isi_tn, isi_tb, isi_ti, isi_ts, isi_tl, isi_bn, isi_bb, isi_bi, isi_bs, isi_bt, isi_in, isi_ib, isi_ii, isi_is, isi_it, isi_sn, isi_sb, isi_si, isi_ss, isi_st, eq_ii, eq_ss, eq_nn, eq_sn, eq_ns, eq_bb, toB_some'] at hlast
      by_cases hc1 : x.b < lastOf x
      · have hA : addD (.lst ((cuts (es.take j) x.k).map .int)) (.lst [.int x.b]) = some (.lst (((cuts (es.take j) x.k) ++ [x.b]).map .int)) := by
          rw [addD_l (by have := sortU_len (cl (es.take j) x.k); have := cl_len x.k (es.take j); unfold cuts; simp; omega), List.map_append]; rfl
        have hlen : (((cuts (es.take j) x.k) ++ [x.b]).filter fun d => decide (x.b ≤ d) && decide (d < lastOf x)).length < 64 := by
          have h1 := sortU_len (cl (es.take j) x.k)
          have h2 := cl_len x.k (es.take j)
          have h3 := List.length_filter_le (fun d => decide (x.b ≤ d) && decide (d < lastOf x)) ((cuts (es.take j) x.k) ++ [x.b])
          rw [List.length_append] at h3
          unfold cuts at h3 ⊢
          simp only [List.length_cons, List.length_nil] at h3
          omega
        have hS : sortSetD (.lst ((((cuts (es.take j) x.k) ++ [x.b]).filter fun d => decide (x.b ≤ d) && decide (d < lastOf x)).map .int)) = some (.lst ((days es j x).map .int)) := by
          show ((intsD ((((cuts (es.take j) x.k) ++ [x.b]).filter fun d => decide (x.b ≤ d) && decide (d < lastOf x)).map .int)).bind fun ns => if ns.length < 64 then some (D.lst ((sortU ns).map .int)) else none) = _
          rw [intsD_map]
          show (if _ < 64 then some (D.lst ((sortU _).map .int)) else none) = _
          rw [if_pos hlen]; rfl
        have hc := lcGo_map (b := bindN 9) (t := asB (chainE (nameE 3) (nameE 9) (nameE 7) leC ltC)) (el := nameE 9) (n := n)
          (ρ := [some (.tup (es.map En.d)), some (.lst (f.map tD)), some (.int (0 + (j : Int))), some (.int x.b), some (oI x.e), some (.int x.k), some (.str x.t), some (.int (lastOf x)), none, none]) D.int
          (fun d => [some (.tup (es.map En.d)), some (.lst (f.map tD)), some (.int (0 + (j : Int))), some (.int x.b), some (oI x.e), some (.int x.k), some (.str x.t), some (.int (lastOf x)), none, some (.int d)]) (fun d => decide (x.b ≤ d) && decide (d < lastOf x)) D.int ((cuts (es.take j) x.k) ++ [x.b]) (fun _ _ => rfl)
          (fun d _ => by
            by_cases q1 : x.b ≤ d
            · by_cases q2 : d < lastOf x
              · simp only [r_runD, List.map_cons, List.map_nil, List.replicate, List.cons_append, List.nil_append, List.append_nil, r_seq, r_if, r_asB, r_un, r_bin, r_name, at_0, at_s, om_some, om_none, ob_some, ob_none, i_t, i_f, i_tt, i_ff, Bool.false_eq_true, asB'_bl, r_orT, r_andT, r_notT, r_orE, r_andE, r_notE, r_ifE, Bool.not_true, Bool.not_false, r_nil, seq'_nx, seq'_rt, seq'_ct, seq'_bk, r_ret, r_set, r_lc, r_mapA, r_nilA, r_consA, r_call, r_c, r_par, r_evalK, r_evalK0, setLR, r_unp, r_mut, r_put, r_aug, r_for, r_iter, r_seqE, r_zip, r_yes, r_noPart, r_aPart, part'_int, r_sl, r_chain, r_chainB, wipR, List.set_cons_zero, List.set_cons_succ, outD_rt, outD_nx, eq_self, decide_true, decide_false, ltC_i, leC_i, gtC_i, geC_i, iadd_i, isub_i, subD_i, addD_i, negD_i, absD_i, intD_i, min2_i, isN_non, isN_i, isN_s, isN_b, isN_t, isNN_non, isNN_i, isNN_s, isNN_b, isNN_t, lenD_l, lenD_t, lenD_r, tupleD_l, tupleD_t, listD_l, listD_t, revD_l, revD_t, iterD_l, iterD_t, iterD_r, seqD_l, seqD_t, seqD_r, ixL1, ixT1, ix20, ix21, ix30, ix31, ix32, ix40, ix41, ix42, ix43, isi_t, isi_tn, isi_tb, isi_ti, isi_ts, isi_tl, isi_bn, isi_bb, isi_bi, isi_bs, isi_bt, isi_in, isi_ib, isi_ii, isi_is, isi_it, isi_sn, isi_sb, isi_si, isi_ss, isi_st, eq_ii, eq_ss, eq_nn, eq_sn, eq_ns, eq_bb, toB_some', q1, q2, Bool.and_true]
              · simp only [r_runD, List.map_cons, List.map_nil, List.replicate, List.cons_append, List.nil_append, List.append_nil, r_seq, r_if, r_asB, r_un, r_bin, r_name, at_0, at_s, om_some, om_none, ob_some, ob_none, i_t, i_f, i_tt, i_ff, Bool.false_eq_true, asB'_bl, r_orT, r_andT, r_notT, r_orE, r_andE, r_notE, r_ifE, Bool.not_true, Bool.not_false, r_nil, seq'_nx, seq'_rt, seq'_ct, seq'_bk, r_ret, r_set, r_lc, r_mapA, r_nilA, r_consA, r_call, r_c, r_par, r_evalK, r_evalK0, setLR, r_unp, r_mut, r_put, r_aug, r_for, r_iter, r_seqE, r_zip, r_yes, r_noPart, r_aPart, part'_int, r_sl, r_chain, r_chainB, wipR, List.set_cons_zero, List.set_cons_succ, outD_rt, outD_nx, eq_self, decide_true, decide_false, ltC_i, leC_i, gtC_i, geC_i, iadd_i, isub_i, subD_i, addD_i, negD_i, absD_i, intD_i, min2_i, isN_non, isN_i, isN_s, isN_b, isN_t, isNN_non, isNN_i, isNN_s, isNN_b, isNN_t, lenD_l, lenD_t, lenD_r, tupleD_l, tupleD_t, listD_l, listD_t, revD_l, revD_t, iterD_l, iterD_t, iterD_r, seqD_l, seqD_t, seqD_r, ixL1, ixT1, ix20, ix21, ix30, ix31, ix32, ix40, ix41, ix42, ix43, isi_t, isi_tn, isi_tb, isi_ti, isi_ts, isi_tl, isi_bn, isi_bb, isi_bi, isi_bs, isi_bt, isi_in, isi_ib, isi_ii, isi_is, isi_it, isi_sn, isi_sb, isi_si, isi_ss, isi_st, eq_ii, eq_ss, eq_nn, eq_sn, eq_ns, eq_bb, toB_some', q1, q2, Bool.and_false]
            · simp only [r_runD, List.map_cons, List.map_nil, List.replicate, List.cons_append, List.nil_append, List.append_nil, r_seq, r_if, r_asB, r_un, r_bin, r_name, at_0, at_s, om_some, om_none, ob_some, ob_none, i_t, i_f, i_tt, i_ff, Bool.false_eq_true, asB'_bl, r_orT, r_andT, r_notT, r_orE, r_andE, r_notE, r_ifE, Bool.not_true, Bool.not_false, r_nil, seq'_nx, seq'_rt, seq'_ct, seq'_bk, r_ret, r_set, r_lc, r_mapA, r_nilA, r_consA, r_call, r_c, r_par, r_evalK, r_evalK0, setLR, r_unp, r_mut, r_put, r_aug, r_for, r_iter, r_seqE, r_zip, r_yes, r_noPart, r_aPart, part'_int, r_sl, r_chain, r_chainB, wipR, List.set_cons_zero, List.set_cons_succ, outD_rt, outD_nx, eq_self, decide_true, decide_false, ltC_i, leC_i, gtC_i, geC_i, iadd_i, isub_i, subD_i, addD_i, negD_i, absD_i, intD_i, min2_i, isN_non, isN_i, isN_s, isN_b, isN_t, isNN_non, isNN_i, isNN_s, isNN_b, isNN_t, lenD_l, lenD_t, lenD_r, tupleD_l, tupleD_t, listD_l, listD_t, revD_l, revD_t, iterD_l, iterD_t, iterD_r, seqD_l, seqD_t, seqD_r, ixL1, ixT1, ix20, ix21, ix30, ix31, ix32, ix40, ix41, ix42, ix43, isi_t, isi_tn, isi_tb, isi_ti, isi_ts, isi_tl, isi_bn, isi_bb, isi_bi, isi_bs, isi_bt, isi_in, isi_ib, isi_ii, isi_is, isi_it, isi_sn, isi_sb, isi_si, isi_ss, isi_st, eq_ii, eq_ss, eq_nn, eq_sn, eq_ns, eq_bb, toB_some', q1, Bool.false_and])
          (fun d _ _ => by simp only [r_runD, List.map_cons, List.map_nil, List.replicate, List.cons_append, List.nil_append, List.append_nil, r_seq, r_if, r_asB, r_un, r_bin, r_name, at_0, at_s, om_some, om_none, ob_some, ob_none, i_t, i_f, i_tt, i_ff, Bool.false_eq_true, asB'_bl, r_orT, r_andT, r_notT, r_orE, r_andE, r_notE, r_ifE, Bool.not_true, Bool.not_false, r_nil, seq'_nx, seq'_rt, seq'_ct, seq'_bk, r_ret, r_set, r_lc, r_mapA, r_nilA, r_consA, r_call, r_c, r_par, r_evalK, r_evalK0, setLR, r_unp, r_mut, r_put, r_aug, r_for, r_iter, r_seqE, r_zip, r_yes, r_noPart, r_aPart, part'_int, r_sl, r_chain, r_chainB, wipR, List.set_cons_zero, List.set_cons_succ, outD_rt, outD_nx, eq_self, decide_true, decide_false])
        have hc2 := lcGo_map (b := bindN 9) (t := yesT) (el := (neE (callE (consA (sl (nameE 0) noPart (aPart (nameE 2))) (consA (nameE 9) (consA (nameE 5) nilA))) (g_held)) (nameE 6))) (n := n)
          (ρ := [some (.tup (es.map En.d)), some (.lst (f.map tD)), some (.int (0 + (j : Int))), some (.int x.b), some (oI x.e), some (.int x.k), some (.str x.t), some (.int (lastOf x)), some (.lst ((days es j x).map .int)), none]) D.int
          (fun d => [some (.tup (es.map En.d)), some (.lst (f.map tD)), some (.int (0 + (j : Int))), some (.int x.b), some (oI x.e), some (.int x.k), some (.str x.t), some (.int (lastOf x)), some (.lst ((days es j x).map .int)), some (.int d)]) (fun _ => true) (fun d => .bl (off es j x d)) (days es j x) (fun _ _ => rfl) (fun _ _ => rfl)
          (fun d _ _ => by simp only [r_runD, List.map_cons, List.map_nil, List.replicate, List.cons_append, List.nil_append, List.append_nil, r_seq, r_if, r_asB, r_un, r_bin, r_name, at_0, at_s, om_some, om_none, ob_some, ob_none, i_t, i_f, i_tt, i_ff, Bool.false_eq_true, asB'_bl, r_orT, r_andT, r_notT, r_orE, r_andE, r_notE, r_ifE, Bool.not_true, Bool.not_false, r_nil, seq'_nx, seq'_rt, seq'_ct, seq'_bk, r_ret, r_set, r_lc, r_mapA, r_nilA, r_consA, r_call, r_c, r_par, r_evalK, r_evalK0, setLR, r_unp, r_mut, r_put, r_aug, r_for, r_iter, r_seqE, r_zip, r_yes, r_noPart, r_aPart, part'_int, r_sl, r_chain, r_chainB, wipR, List.set_cons_zero, List.set_cons_succ, outD_rt, outD_nx, eq_self, decide_true, decide_false, ltC_i, leC_i, gtC_i, geC_i, iadd_i, isub_i, subD_i, addD_i, negD_i, absD_i, intD_i, min2_i, isN_non, isN_i, isN_s, isN_b, isN_t, isNN_non, isNN_i, isNN_s, isNN_b, isNN_t, lenD_l, lenD_t, lenD_r, tupleD_l, tupleD_t, listD_l, listD_t, revD_l, revD_t, iterD_l, iterD_t, iterD_r, seqD_l, seqD_t, seqD_r, ixL1, ixT1, ix20, ix21, ix30, ix31, ix32, ix40, ix41, ix42, ix43, isi_t, isi_tn, isi_tb, isi_ti, isi_ts, isi_tl, isi_bn, isi_bb, isi_bi, isi_bs, isi_bt, isi_in, isi_ib, isi_ii, isi_is, isi_it, isi_sn, isi_sb, isi_si, isi_ss, isi_st, eq_ii, eq_ss, eq_nn, eq_sn, eq_ns, eq_bb, toB_some', e2, held_run, eq_oSs]; rfl)
        rw [filter_yes] at hc2
        have hany := anyD_map (off es j x) (days es j x)
        have hap : appD (.lst (f.map tD)) (.tup [.int x.k, .int x.b, .int (lastOf x)]) = some (.lst ((f ++ [(x.k, x.b, lastOf x)]).map tD)) := by
          rw [appD_l (by simp; omega), List.map_append]; rfl
        cases hq : (days es j x).any (off es j x) with
        | true =>
          have hp : chgP es j x = true := by unfold chgP; rw [decide_eq_true hc1, hq]; rfl
          rw [if_pos hp]
          rw [hq] at hany
          refine ⟨by simp; omega, _, [some (.tup (es.map En.d)), some (.lst ((f ++ [(x.k, x.b, lastOf x)]).map tD)), some (.int (0 + (j : Int))), some (.int x.b), some (oI x.e), some (.int x.k), some (.str x.t), some (.int (lastOf x)), some (.lst ((days es j x).map .int)), none], rfl, .inl ?_, rfl⟩
          simp only [r_runD, List.map_cons, List.map_nil, List.replicate, List.cons_append, List.nil_append, List.append_nil, r_seq, r_if, r_asB, r_un, r_bin, r_name, at_0, at_s, om_some, om_none, ob_some, ob_none, i_t, i_f, i_tt, i_ff, Bool.false_eq_true, asB'_bl, r_orT, r_andT, r_notT, r_orE, r_andE, r_notE, r_ifE, Bool.not_true, Bool.not_false, r_nil, seq'_nx, seq'_rt, seq'_ct, seq'_bk, r_ret, r_set, r_lc, r_mapA, r_nilA, r_consA, r_call, r_c, r_par, r_evalK, r_evalK0, setLR, r_unp, r_mut, r_put, r_aug, r_for, r_iter, r_seqE, r_zip, r_yes, r_noPart, r_aPart, part'_int, r_sl, r_chain, r_chainB, wipR, List.set_cons_zero, List.set_cons_succ, outD_rt, outD_nx, eq_self, decide_true, decide_false, ltC_i, leC_i, gtC_i, geC_i, iadd_i, isub_i, subD_i, addD_i, negD_i, absD_i, intD_i, min2_i, isN_non, isN_i, isN_s, isN_b, isN_t, isNN_non, isNN_i, isNN_s, isNN_b, isNN_t, lenD_l, lenD_t, lenD_r, tupleD_l, tupleD_t, listD_l, listD_t, revD_l, revD_t, iterD_l, iterD_t, iterD_r, seqD_l, seqD_t, seqD_r, ixL1, ixT1, ix20, ix21, ix30, ix31, ix32, ix40, ix41, ix42, ix43, isi_t, isi_tn, isi_tb, isi_ti, isi_ts, isi_tl, isi_bn, isi_bb, isi_bi, isi_bs, isi_bt, isi_in, isi_ib, isi_ii, isi_is, isi_it, isi_sn, isi_sb, isi_si, isi_ss, isi_st, eq_ii, eq_ss, eq_nn, eq_sn, eq_ns, eq_bb, toB_some', e1, hb, hlast, hc1, e2, e3, lst1, hA, hc, hS, hc2, hany, tup3, hap]
        | false =>
          have hp : ¬ chgP es j x = true := by unfold chgP; rw [decide_eq_true hc1, hq]; simp
          rw [if_neg hp]
          rw [hq] at hany
          refine ⟨by omega, _, [some (.tup (es.map En.d)), some (.lst (f.map tD)), some (.int (0 + (j : Int))), some (.int x.b), some (oI x.e), some (.int x.k), some (.str x.t), some (.int (lastOf x)), some (.lst ((days es j x).map .int)), none], rfl, .inl ?_, rfl⟩
          simp only [r_runD, List.map_cons, List.map_nil, List.replicate, List.cons_append, List.nil_append, List.append_nil, r_seq, r_if, r_asB, r_un, r_bin, r_name, at_0, at_s, om_some, om_none, ob_some, ob_none, i_t, i_f, i_tt, i_ff, Bool.false_eq_true, asB'_bl, r_orT, r_andT, r_notT, r_orE, r_andE, r_notE, r_ifE, Bool.not_true, Bool.not_false, r_nil, seq'_nx, seq'_rt, seq'_ct, seq'_bk, r_ret, r_set, r_lc, r_mapA, r_nilA, r_consA, r_call, r_c, r_par, r_evalK, r_evalK0, setLR, r_unp, r_mut, r_put, r_aug, r_for, r_iter, r_seqE, r_zip, r_yes, r_noPart, r_aPart, part'_int, r_sl, r_chain, r_chainB, wipR, List.set_cons_zero, List.set_cons_succ, outD_rt, outD_nx, eq_self, decide_true, decide_false, ltC_i, leC_i, gtC_i, geC_i, iadd_i, isub_i, subD_i, addD_i, negD_i, absD_i, intD_i, min2_i, isN_non, isN_i, isN_s, isN_b, isN_t, isNN_non, isNN_i, isNN_s, isNN_b, isNN_t, lenD_l, lenD_t, lenD_r, tupleD_l, tupleD_t, listD_l, listD_t, revD_l, revD_t, iterD_l, iterD_t, iterD_r, seqD_l, seqD_t, seqD_r, ixL1, ixT1, ix20, ix21, ix30, ix31, ix32, ix40, ix41, ix42, ix43, isi_t, isi_tn, isi_tb, isi_ti, isi_ts, isi_tl, isi_bn, isi_bb, isi_bi, isi_bs, isi_bt, isi_in, isi_ib, isi_ii, isi_is, isi_it, isi_sn, isi_sb, isi_si, isi_ss, isi_st, eq_ii, eq_ss, eq_nn, eq_sn, eq_ns, eq_bb, toB_some', e1, hb, hlast, hc1, e2, e3, lst1, hA, hc, hS, hc2, hany, tup3, hap]
      · have hp : ¬ chgP es j x = true := by unfold chgP; rw [decide_eq_false hc1]; simp
        rw [if_neg hp]
        refine ⟨by omega, _, [some (.tup (es.map En.d)), some (.lst (f.map tD)), some (.int (0 + (j : Int))), some (.int x.b), some (oI x.e), some (.int x.k), some (.str x.t), some (.int (lastOf x)), none, none], rfl, .inl ?_, rfl⟩
        simp only [r_runD, List.map_cons, List.map_nil, List.replicate, List.cons_append, List.nil_append, List.append_nil, r_seq, r_if, r_asB, r_un, r_bin, r_name, at_0, at_s, om_some, om_none, ob_some, ob_none, i_t, i_f, i_tt, i_ff, Bool.false_eq_true, asB'_bl, r_orT, r_andT, r_notT, r_orE, r_andE, r_notE, r_ifE, Bool.not_true, Bool.not_false, r_nil, seq'_nx, seq'_rt, seq'_ct, seq'_bk, r_ret, r_set, r_lc, r_mapA, r_nilA, r_consA, r_call, r_c, r_par, r_evalK, r_evalK0, setLR, r_unp, r_mut, r_put, r_aug, r_for, r_iter, r_seqE, r_zip, r_yes, r_noPart, r_aPart, part'_int, r_sl, r_chain, r_chainB, wipR, List.set_cons_zero, List.set_cons_succ, outD_rt, outD_nx, eq_self, decide_true, decide_false, ltC_i, leC_i, gtC_i, geC_i, iadd_i, isub_i, subD_i, addD_i, negD_i, absD_i, intD_i, min2_i, isN_non, isN_i, isN_s, isN_b, isN_t, isNN_non, isNN_i, isNN_s, isNN_b, isNN_t, lenD_l, lenD_t, lenD_r, tupleD_l, tupleD_t, listD_l, listD_t, revD_l, revD_t, iterD_l, iterD_t, iterD_r, seqD_l, seqD_t, seqD_r, ixL1, ixT1, ix20, ix21, ix30, ix31, ix32, ix40, ix41, ix42, ix43, isi_t, isi_tn, isi_tb, isi_ti, isi_ts, isi_tl, isi_bn, isi_bb, isi_bi, isi_bs, isi_bt, isi_in, isi_ib, isi_ii, isi_is, isi_it, isi_sn, isi_sb, isi_si, isi_ss, isi_st, eq_ii, eq_ss, eq_nn, eq_sn, eq_ns, eq_bb, toB_some', e1, hb, hlast, hc1])
  have hr : rng1E (lenE (nameE 0)) [some (.tup (es.map En.d)), some (.lst []), none, none, none, none, none, none, none, none] n = some (rngD 0 (es.length : Int), n) := rng1_run (by simp only [r_runD, List.map_cons, List.map_nil, List.replicate, List.cons_append, List.nil_append, List.append_nil, r_seq, r_if, r_asB, r_un, r_bin, r_name, at_0, at_s, om_some, om_none, ob_some, ob_none, i_t, i_f, i_tt, i_ff, Bool.false_eq_true, asB'_bl, r_orT, r_andT, r_notT, r_orE, r_andE, r_notE, r_ifE, Bool.not_true, Bool.not_false, r_nil, seq'_nx, seq'_rt, seq'_ct, seq'_bk, r_ret, r_set, r_lc, r_mapA, r_nilA, r_consA, r_call, r_c, r_par, r_evalK, r_evalK0, setLR, r_unp, r_mut, r_put, r_aug, r_for, r_iter, r_seqE, r_zip, r_yes, r_noPart, r_aPart, part'_int, r_sl, r_chain, r_chainB, wipR, List.set_cons_zero, List.set_cons_succ, outD_rt, outD_nx, eq_self, decide_true, decide_false, ltC_i, leC_i, gtC_i, geC_i, iadd_i, isub_i, subD_i, addD_i, negD_i, absD_i, intD_i, min2_i, isN_non, isN_i, isN_s, isN_b, isN_t, isNN_non, isNN_i, isNN_s, isNN_b, isNN_t, lenD_l, lenD_t, lenD_r, tupleD_l, tupleD_t, listD_l, listD_t, revD_l, revD_t, iterD_l, iterD_t, iterD_r, seqD_l, seqD_t, seqD_r, ixL1, ixT1, ix20, ix21, ix30, ix31, ix32, ix40, ix41, ix42, ix43, isi_t, isi_tn, isi_tb, isi_ti, isi_ts, isi_tl, isi_bn, isi_bb, isi_bi, isi_bs, isi_bt, isi_in, isi_ib, isi_ii, isi_is, isi_it, isi_sn, isi_sb, isi_si, isi_ss, isi_st, eq_ii, eq_ss, eq_nn, eq_sn, eq_ns, eq_bb, toB_some', List.length_map]) (by omega) (by omega)
  have hd : rngD 0 (es.length : Int) = (List.range es.length).map fun i : Nat => D.int (0 + (i : Int)) := by
    unfold rngD; rw [show ((es.length : Int) - 0).toNat = es.length by omega]
  rw [← hd] at h1
  simp only [List.map_nil] at h1
  have hback : (List.range es.length).foldl (stepC (chgL es) es) [] = back es := rfl
  rw [hback] at h1
  simp only [g_changed_back, f_changed_back, r_runD, List.map_cons, List.map_nil, List.replicate, List.cons_append, List.nil_append, List.append_nil, r_seq, r_if, r_asB, r_un, r_bin, r_name, at_0, at_s, om_some, om_none, ob_some, ob_none, i_t, i_f, i_tt, i_ff, Bool.false_eq_true, asB'_bl, r_orT, r_andT, r_notT, r_orE, r_andE, r_notE, r_ifE, Bool.not_true, Bool.not_false, r_nil, seq'_nx, seq'_rt, seq'_ct, seq'_bk, r_ret, r_set, r_lc, r_mapA, r_nilA, r_consA, r_call, r_c, r_par, r_evalK, r_evalK0, setLR, r_unp, r_mut, r_put, r_aug, r_for, r_iter, r_seqE, r_zip, r_yes, r_noPart, r_aPart, part'_int, r_sl, r_chain, r_chainB, wipR, List.set_cons_zero, List.set_cons_succ, outD_rt, outD_nx, eq_self, decide_true, decide_false, ltC_i, leC_i, gtC_i, geC_i, iadd_i, isub_i, subD_i, addD_i, negD_i, absD_i, intD_i, min2_i, isN_non, isN_i, isN_s, isN_b, isN_t, isNN_non, isNN_i, isNN_s, isNN_b, isNN_t, lenD_l, lenD_t, lenD_r, tupleD_l, tupleD_t, listD_l, listD_t, revD_l, revD_t, iterD_l, iterD_t, iterD_r, seqD_l, seqD_t, seqD_r, ixL1, ixT1, ix20, ix21, ix30, ix31, ix32, ix40, ix41, ix42, ix43, isi_t, isi_tn, isi_tb, isi_ti, isi_ts, isi_tl, isi_bn, isi_bb, isi_bi, isi_bs, isi_bt, isi_in, isi_ib, isi_ii, isi_is, isi_it, isi_sn, isi_sb, isi_si, isi_ss, isi_st, eq_ii, eq_ss, eq_nn, eq_sn, eq_ns, eq_bb, toB_some', h0, hr, h1]
  cases sortD (.lst ((back es).map tD)) with
  | none => rfl
  | some d => cases h : tupleD d <;> simp only [om_some, ob_some, h, om_none, ob_none, outD_rt]
end K28
namespace K28
open PySem PySem.Spec PyProof.Rows L2 L3
/-! ### the law's own text, cut -/
abbrev S0 (dr : List Int) : SF := (parS [3, 4] [(.fz, (callE (consA (nameE 1) nilA) (g_law_entries dr))), (.fz, (callE (consA (nameE 1) nilA) (g_law_entries dr)))])
abbrev F1 (dr : List Int) : SF := (seqS (parS [6, 7] [(.fz, (L3.bin (callE (consA (nameE 1) (consA (cE (.int 18)) nilA)) (g_law_next dr)) (cE (.int 1)) subD)), (.fz, (L3.bin (callE (consA (nameE 1) (consA (cE (.int 16)) nilA)) (g_law_next dr)) (cE (.int 1)) subD))]) (seqS (ifS (orT (notT (asB (callE (consA (callE (consA (nameE 3) (consA (nameE 6) (consA (nameE 7) nilA))) (g_held)) (consA (callE (consA (nameE 3) (consA (nameE 6) (consA (nameE 7) nilA))) (g_law_held)) nilA)) (g_law_alike 6)))) (notT (asB (callE (consA (callE (consA (nameE 3) (consA (nameE 7) nilA)) (g_row_as_known)) (consA (callE (consA (nameE 3) (consA (nameE 7) nilA)) (g_law_row)) nilA)) (g_law_alike 6))))) (retS (cE (.bl false))) nilS) nilS))
abbrev S1 (dr : List Int) : SF := forS (rng1E (cE (.int 4))) (bindN 5) [5, 6, 7] (F1 dr)
abbrev S2 (dr : List Int) : SF := (setS 8 (mapA nilA lstD))
abbrev F3 (dr : List Int) : SF := (seqS (unpS (L3.bin (nameE 3) (nameE 5) ixD) (bindT ((bindN 9) :: ((bindN 10) :: ((bindN 7) :: ((bindN 11) :: [])))))) (seqS (setS 12 (ifE (asB (L3.bin (nameE 10) (cE .non) isN)) (nameE 7) (L3.bin (nameE 10) (nameE 7) min2D))) (seqS (ifS (asB (neE (lcE (rng2E (nameE 9) (nameE 12)) [6] (bindN 6) (asB (neE (callE (consA (sl (nameE 3) noPart (aPart (nameE 5))) (consA (nameE 6) (consA (nameE 7) nilA))) (g_law_held)) (nameE 11))) (nameE 6)) (mapA nilA lstD))) (seqS (mutS 8 (mapA (consA (nameE 7) (consA (nameE 9) (consA (nameE 12) nilA))) tupD) appD) nilS) nilS) nilS)))
abbrev S3 (dr : List Int) : SF := forS (rng1E (lenE (nameE 3))) (bindN 5) [5, 7, 9, 10, 11, 12] (F3 dr)
abbrev S4 (dr : List Int) : SF := (ifS (notT (asB (callE (consA (callE (consA (nameE 3) nilA) (g_changed_back)) (consA (un (un (nameE 8) sortD) tupleD) nilA)) (g_law_alike 6)))) (retS (cE (.bl false))) nilS)
abbrev S5 (dr : List Int) : SF := (setS 7 (callE (consA (nameE 1) (consA (cE (.int 9)) nilA)) (g_law_next dr)))
abbrev S6 (dr : List Int) : SF := (setS 13 (callE (consA (nameE 3) (consA (cE (.int 99)) nilA)) (g_law_row)))
abbrev S7 (dr : List Int) : SF := (setS 14 (callE (consA (nameE 13) (consA (nameE 7) nilA)) (g_least_entries)))
abbrev S8 (dr : List Int) : SF := (ifS (orT (notT (asB (callE (consA (nameE 14) nilA) (g_law_are)))) (orT (asB (neE (lcE (seqE (nameE 14)) [15] (bindN 15) (asB (neE (L3.bin (nameE 15) (cE (.int 2)) ixD) (nameE 7))) (nameE 15)) (mapA nilA lstD))) (asB (neE (callE (consA (nameE 14) (consA (nameE 7) nilA)) (g_law_row)) (nameE 13))))) (retS (cE (.bl false))) nilS)
abbrev S9 (dr : List Int) : SF := (setS 4 (callE (consA (nameE 1) (consA (mapA (consA (nameE 4) (consA (nameE 14) (consA (L3.bin (nameE 3) (sl (nameE 3) noPart (aPart (cE (.int 1)))) addD) (consA (sl (nameE 3) (aPart (cE (.int 1))) noPart) (consA (nameE 3) nilA))))) lstD) nilA)) (g_law_pick dr)))
abbrev S10 (dr : List Int) : SF := (ifS (andT (asB (callE (consA (nameE 4) nilA) (g_law_are))) (notT (asB (callE (consA (callE (consA (nameE 3) (consA (nameE 4) nilA)) (g_same_now)) (consA (eqE (callE (consA (nameE 3) (consA (cE (.int 99)) nilA)) (g_law_row)) (callE (consA (nameE 4) (consA (cE (.int 99)) nilA)) (g_law_row))) nilA)) (g_law_alike 6))))) (retS (cE (.bl false))) nilS)
abbrev F11 (dr : List Int) : SF := (seqS (setS 16 (callE (consA (nameE 1) (consA (L3.bin (lenE (nameE 3)) (cE (.int 1)) addD) nilA)) (g_law_next dr))) (seqS (setS 15 (callE (consA (nameE 1) (consA (mapA (consA (mapA (consA (cE (.int 3)) (consA (cE (.int 3)) (consA (cE (.int 0)) (consA (cE (.str "a")) nilA)))) tupD) (consA (mapA (consA (cE (.int 3)) (consA (cE (.int 2)) (consA (cE (.int 0)) (consA (cE (.str "a")) nilA)))) tupD) (consA (mapA (consA (cE (.bl true)) (consA (cE (.int 4)) (consA (cE (.int 0)) (consA (cE (.str "a")) nilA)))) tupD) (consA (mapA (consA (cE (.int 1)) (consA (cE .non) (consA (cE (.int 0)) nilA))) tupD) (consA (mapA (consA (cE (.int 1)) (consA (cE (.int 2)) (consA (cE (.int 0)) (consA (cE (.str "a")) nilA)))) lstD) (consA (mapA (consA (cE (.int 1)) (consA (cE (.int 2)) (consA (cE (.int 99)) (consA (cE (.str "b")) nilA)))) tupD) (consA (mapA (consA (cE (.int 1)) (consA (cE (.str "2")) (consA (cE (.int 0)) (consA (cE (.str "a")) nilA)))) tupD) (consA (mapA (consA (cE (.int 0)) (consA (cE .non) (consA (cE .non) (consA (cE (.str "a")) nilA)))) tupD) nilA)))))))) lstD) nilA)) (g_law_pick dr))) (seqS (setS 11 (callE (consA (nameE 1) (consA (mapA (consA (nameE 3) (consA (un (nameE 3) revD) (consA (un (nameE 3) listD) (consA (L3.bin (L3.bin (sl (nameE 3) noPart (aPart (nameE 16))) (mapA (consA (nameE 15) nilA) tupD) addD) (sl (nameE 3) (aPart (nameE 16)) noPart) addD) (consA (L3.bin (L3.bin (sl (nameE 3) noPart (aPart (nameE 16))) (mapA (consA (nameE 15) nilA) tupD) addD) (sl (nameE 3) (aPart (nameE 16)) noPart) addD) (consA (cE .non) nilA)))))) lstD) nilA)) (g_law_pick dr))) (seqS (ifS (notT (asB (callE (consA (callE (consA (nameE 11) nilA) (g_are_entries)) (consA (callE (consA (nameE 11) nilA) (g_law_are)) nilA)) (g_law_alike 6)))) (retS (cE (.bl false))) nilS) nilS))))
abbrev S11 (dr : List Int) : SF := forS (rng1E (cE (.int 6))) (bindN 5) [5, 11, 15, 16] (F11 dr)
abbrev S12 (dr : List Int) : SF := nilS
abbrev B0 (dr : List Int) : SF := (seqS (S0 dr) (seqS (S1 dr) (seqS (S2 dr) (seqS (S3 dr) (seqS (S4 dr) (seqS (S5 dr) (seqS (S6 dr) (seqS (S7 dr) (seqS (S8 dr) (seqS (S9 dr) (seqS (S10 dr) (seqS (S11 dr) (S12 dr)))))))))))))
theorem rest_eq (dr : List Int) : f_lawrest dr = seqS (forS (rng1E (cE (.int 7))) (bindN 2) [2, 3, 4, 5, 6, 7, 8, 9, 10, 11, 12, 13, 14, 15, 16] (B0 dr)) (retS (cE (.bl true))) := rfl
theorem seq_nx {F G : SF} {ρ ρ' : Ro} {n n' : Nat} (h : F ρ n = some (.nx ρ', n')) : seqS F G ρ n = G ρ' n' := by
  rw [r_seq, h]; rfl
/-- the slots of the law -/
abbrev E (sc t en ot k dy kn bk b e th l rw md ow at_ : Option D) : Ro := [sc, some .w, t, en, ot, k, dy, kn, bk, b, e, th, l, rw, md, ow, at_]
abbrev eD (es : List En) : D := .tup (es.map En.d)
theorem tdL_map {α : Type} (f : α → D) (h : ∀ a, td (f a) = true) : ∀ l : List α, tdL (l.map f) = true
  | [] => rfl
  | a :: l => by show (td (f a) && tdL (l.map f)) = true; rw [h a, tdL_map f h l]; rfl
theorem dpL_map {α : Type} (f : α → D) (m : Nat) (h : ∀ a, dp (f a) ≤ m) : ∀ l : List α, dpL (l.map f) ≤ m
  | [] => Nat.zero_le _
  | a :: l => by
    show max (dp (f a)) (dpL (l.map f)) ≤ m
    have := h a
    have := dpL_map f m h l
    omega
theorem td_oI (o : Option Int) : td (oI o) = true ∧ dp (oI o) = 1 := by cases o <;> exact ⟨rfl, rfl⟩
theorem td_oS (o : Option Str) : td (oS o) = true ∧ dp (oS o) = 1 := by cases o <;> exact ⟨rfl, rfl⟩
theorem td_rw (r : Rw) : td r.d = true := by
  show (decide (3 ≤ 1000) && (true && (td (oI r.e) && (true && true)))) = true
  rw [(td_oI r.e).1]; rfl
theorem dp_rw (r : Rw) : dp r.d ≤ 2 := by
  show max 1 (max (dp (oI r.e)) (max 1 0)) + 1 ≤ 2
  rw [(td_oI r.e).2]; decide
theorem alike_row (R : List Rw) (h : R.length ≤ 1000) (n : Nat) : g_law_alike 6 [.tup (R.map Rw.d), .tup (R.map Rw.d)] n = some (.bl true, n) := by
  refine alike_refl 6 _ n ?_ ?_
  · show (decide ((R.map Rw.d).length ≤ 1000) && tdL (R.map Rw.d)) = true
    rw [tdL_map Rw.d td_rw, List.length_map, decide_eq_true h]; rfl
  · have := dpL_map Rw.d 2 dp_rw R
    show dpL (R.map Rw.d) + 1 ≤ 6; omega
theorem alike_oS (o : Option Str) (n : Nat) : g_law_alike 6 [oS o, oS o] n = some (.bl true, n) := alike_refl 6 _ n (td_oS o).1 (by rw [(td_oS o).2]; decide)
theorem alike_bl (b : Bool) (n : Nat) : g_law_alike 6 [.bl b, .bl b] n = some (.bl true, n) := alike_refl 6 _ n rfl (by show 1 ≤ 6; decide)
/-! ### held and the rows -/
theorem s1_run (dr : List Int) (es : List En) (hok : ∀ x ∈ es, OkE x) (hl : es.length ≤ 30) (sc t ot : Option D) (n : Nat) : ∃ n', S1 dr (E sc t (some (eD es)) ot none none none none none none none none none none none none) n = some (.nx (E sc t (some (eD es)) ot none none none none none none none none none none none none), n') := by
  have hr : rng1E (cE (.int 4)) (E sc t (some (eD es)) ot none none none none none none none none none none none none) n = some (rngD 0 4, n) := rng1_run r_c (by decide) (by decide)
  obtain ⟨ρ', n', e, hI⟩ := loopS_inv (b := bindN 5) (drop := [5, 6, 7]) (F := F1 dr) (I := fun ρ _ => ρ = E sc t (some (eD es)) ot none none none none none none none none none none none none) (rngD 0 4) _ n rfl (fun x hx ρ m hI => by
    subst hI
    obtain ⟨a, a1, a2, a3⟩ := next_run dr 18 (by decide) m
    obtain ⟨b, b1, b2, b3⟩ := next_run dr 16 (by decide) (m + 1)
    have c1 := held_run es (a - 1) (b - 1) (m + 1 + 1)
    have c2 := lheld_run es (a - 1) (b - 1) (m + 1 + 1)
    have c3 := row_run es (b - 1) (m + 1 + 1) hl
    have c4 := lrow_run es (b - 1) (m + 1 + 1)
    rw [row_eq es _ (cl_ok hok _)] at c3
    have c5 := alike_oS (held es (a - 1) (b - 1)) (m + 1 + 1)
    have c6 := alike_row (rowL es (b - 1)) (Nat.le_trans (row_ok hok (b - 1)).2 (by decide)) (m + 1 + 1)
    refine ⟨_, E sc t (some (eD es)) ot (some x) (some (.int (a - 1))) (some (.int (b - 1))) none none none none none none none none none, m + 1 + 1, rfl, .inl ?_, rfl⟩
    simp only [F1, E, eD, r_runD, List.map_cons, List.map_nil, List.replicate, List.cons_append, List.nil_append, List.append_nil, r_seq, r_if, r_asB, r_un, r_bin, r_name, at_0, at_s, om_some, om_none, ob_some, ob_none, i_t, i_f, i_tt, i_ff, Bool.false_eq_true, asB'_bl, r_orT, r_andT, r_notT, r_orE, r_andE, r_notE, r_ifE, Bool.not_true, Bool.not_false, r_nil, seq'_nx, seq'_rt, seq'_ct, seq'_bk, r_ret, r_set, r_lc, r_mapA, r_nilA, r_consA, r_call, r_c, r_par, r_evalK, r_evalK0, setLR, r_unp, r_mut, r_put, r_aug, r_for, r_iter, r_seqE, r_zip, r_yes, r_noPart, r_aPart, part'_int, r_sl, r_chain, r_chainB, wipR, List.set_cons_zero, List.set_cons_succ, outD_rt, outD_nx, eq_self, decide_true, decide_false, ltC_i, leC_i, gtC_i, geC_i, iadd_i, isub_i, subD_i, addD_i, negD_i, absD_i, intD_i, min2_i, isN_non, isN_i, isN_s, isN_b, isN_t, isNN_non, isNN_i, isNN_s, isNN_b, isNN_t, lenD_l, lenD_t, lenD_r, tupleD_l, tupleD_t, listD_l, listD_t, revD_l, revD_t, iterD_l, iterD_t, iterD_r, seqD_l, seqD_t, seqD_r, ixL1, ixT1, ix20, ix21, ix30, ix31, ix32, ix40, ix41, ix42, ix43, isi_t, isi_tn, isi_tb, isi_ti, isi_ts, isi_tl, isi_bn, isi_bb, isi_bi, isi_bs, isi_bt, isi_in, isi_ib, isi_ii, isi_is, isi_it, isi_sn, isi_sb, isi_si, isi_ss, isi_st, eq_ii, eq_ss, eq_nn, eq_sn, eq_ns, eq_bb, toB_some', a3, b3, c1, c2, c3, c4, c5, c6])
  subst hI
  refine ⟨n', ?_⟩
  show forS _ _ _ _ _ _ = _
  rw [r_for, hr]
  exact e
/-! ### what changed back, by the law -/
theorem s3_run (dr : List Int) (es : List En) (hok : ∀ x ∈ es, OkE x) (hl : es.length ≤ 30) (sc t ot : Option D) (n : Nat) : S3 dr (E sc t (some (eD es)) ot none none none (some (.lst [])) none none none none none none none none) n = some (.nx (E sc t (some (eD es)) ot none none none (some (.lst ((back es).map tD))) none none none none none none none none), n) := by
  have h0 := lst0
  have hr : rng1E (lenE (nameE 3)) (E sc t (some (eD es)) ot none none none (some (.lst [])) none none none none none none none none) n = some (rngD 0 (es.length : Int), n) := rng1_run (by simp only [E, eD, r_runD, List.map_cons, List.map_nil, List.replicate, List.cons_append, List.nil_append, List.append_nil, r_seq, r_if, r_asB, r_un, r_bin, r_name, at_0, at_s, om_some, om_none, ob_some, ob_none, i_t, i_f, i_tt, i_ff, Bool.false_eq_true, asB'_bl, r_orT, r_andT, r_notT, r_orE, r_andE, r_notE, r_ifE, Bool.not_true, Bool.not_false, r_nil, seq'_nx, seq'_rt, seq'_ct, seq'_bk, r_ret, r_set, r_lc, r_mapA, r_nilA, r_consA, r_call, r_c, r_par, r_evalK, r_evalK0, setLR, r_unp, r_mut, r_put, r_aug, r_for, r_iter, r_seqE, r_zip, r_yes, r_noPart, r_aPart, part'_int, r_sl, r_chain, r_chainB, wipR, List.set_cons_zero, List.set_cons_succ, outD_rt, outD_nx, eq_self, decide_true, decide_false, ltC_i, leC_i, gtC_i, geC_i, iadd_i, isub_i, subD_i, addD_i, negD_i, absD_i, intD_i, min2_i, isN_non, isN_i, isN_s, isN_b, isN_t, isNN_non, isNN_i, isNN_s, isNN_b, isNN_t, lenD_l, lenD_t, lenD_r, tupleD_l, tupleD_t, listD_l, listD_t, revD_l, revD_t, iterD_l, iterD_t, iterD_r, seqD_l, seqD_t, seqD_r, ixL1, ixT1, ix20, ix21, ix30, ix31, ix32, ix40, ix41, ix42, ix43, isi_t, isi_tn, isi_tb, isi_ti, isi_ts, isi_tl, isi_bn, isi_bb, isi_bi, isi_bs, isi_bt, isi_in, isi_ib, isi_ii, isi_is, isi_it, isi_sn, isi_sb, isi_si, isi_ss, isi_st, eq_ii, eq_ss, eq_nn, eq_sn, eq_ns, eq_bb, toB_some', List.length_map]) (by omega) (by omega)
  have hd : rngD 0 (es.length : Int) = (List.range es.length).map fun i : Nat => D.int (0 + (i : Int)) := by
    unfold rngD; rw [show ((es.length : Int) - 0).toNat = es.length by omega]
  obtain ⟨h1, _⟩ := loopS_foldI (n := n) (b := bindN 5) (drop := [5, 7, 9, 10, 11, 12]) (F := F3 dr) (fun i : Nat => D.int (0 + (i : Int))) (fun f : List (Int × Int × Int) => E sc t (some (eD es)) ot none none none (some (.lst (f.map tD))) none none none none none none none none) (stepC (chgL es) es) (fun i f => f.length ≤ i) (List.range es.length) 0 [] (Nat.zero_le _)
    (fun i j hj f hI => by
      have hjj : i < es.length ∧ j = i := by
        obtain ⟨a, b⟩ := List.getElem?_eq_some_iff.mp hj
        rw [List.getElem_range] at b
        exact ⟨by simpa using a, b.symm⟩
      obtain ⟨hi, rfl⟩ := hjj
      obtain ⟨x, hx⟩ : ∃ x, es[j]? = some x := ⟨es[j], List.getElem?_eq_getElem hi⟩
      have hxo := hok x (List.mem_of_getElem? hx)
      have e1 := ix_en hx
      have e2 := sl_take es j
      have eb : stepC (chgL es) es f j = if chgL es j x = true then f ++ [(x.k, x.b, lastOf x)] else f := by unfold stepC; rw [hx]
      rw [eb]
      have hb : bindT ((bindN 9) :: ((bindN 10) :: ((bindN 7) :: ((bindN 11) :: [])))) x.d (E sc t (some (eD es)) ot (some (.int (0 + (j : Int)))) none none (some (.lst (f.map tD))) none none none none none none none none) = some (E sc t (some (eD es)) ot (some (.int (0 + (j : Int)))) none (some (.int x.k)) (some (.lst (f.map tD))) (some (.int x.b)) (some (oI x.e)) (some (.str x.t)) none none none none none) := nr rfl
      have hlast : ∀ ρ : Ro, at' ρ 10 = some (oI x.e) → at' ρ 7 = some (.int x.k) → ifE (asB (L3.bin (nameE 10) (cE .non) isN)) (nameE 7) (L3.bin (nameE 10) (nameE 7) min2D) ρ n = some (.int (lastOf x), n) := fun ρ g1 g2 => by
        unfold lastOf
        cases he : x.e with
        | none => rw [he, oI_n] at g1; simp only [r_runD, List.map_cons, List.map_nil, List.replicate, List.cons_append, List.nil_append, List.append_nil, r_seq, r_if, r_asB, r_un, r_bin, r_name, at_0, at_s, om_some, om_none, ob_some, ob_none, i_t, i_f, i_tt, i_ff, Bool.false_eq_true, asB'_bl, r_orT, r_andT, r_notT, r_orE, r_andE, r_notE, r_ifE, Bool.not_true, Bool.not_false, r_nil, seq'_nx, seq'_rt, seq'_ct, seq'_bk, r_ret, r_set, r_lc, r_mapA, r_nilA, r_consA, r_call, r_c, r_par, r_evalK, r_evalK0, setLR, r_unp, r_mut, r_put, r_aug, r_for, r_iter, r_seqE, r_zip, r_yes, r_noPart, r_aPart, part'_int, r_sl, r_chain, r_chainB, wipR, List.set_cons_zero, List.set_cons_succ, outD_rt, outD_nx, eq_self, decide_true, decide_false, ltC_i, leC_i, gtC_i, geC_i, iadd_i, isub_i, subD_i, addD_i, negD_i, absD_i, intD_i, min2_i, isN_non, isN_i, isN_s, isN_b, isN_t, isNN_non, isNN_i, isNN_s, isNN_b, isNN_t, lenD_l, lenD_t, lenD_r, tupleD_l, tupleD_t, listD_l, listD_t, revD_l, revD_t, iterD_l, iterD_t, iterD_r, seqD_l, seqD_t, seqD_r, ixL1, ixT1, ix20, ix21, ix30, ix31, ix32, ix40, ix41, ix42, ix43, isi_t, isi_tn, isi_tb, isi_ti, isi_ts, isi_tl, isi_bn, isi_bb, isi_bi, isi_bs, isi_bt, isi_in, isi_ib, isi_ii, isi_is, isi_it, isi_sn, isi_sb, isi_si, isi_ss, isi_st, eq_ii, eq_ss, eq_nn, eq_sn, eq_ns, eq_bb, toB_some', g1, g2]
        | some e => rw [he, oI_s] at g1; simp only [r_runD, List.map_cons, List.map_nil, List.replicate, List.cons_append, List.nil_append, List.append_nil, r_seq, r_if, r_asB, r_un, r_bin, r_name, at_0, at_s, om_some, om_none, ob_some, ob_none, i_t, i_f, i_tt, i_ff, Bool.false_eq_true, asB'_bl, r_orT, r_andT, r_notT, r_orE, r_andE, r_notE, r_ifE, Bool.not_true, Bool.not_false, r_nil, seq'_nx, seq'_rt, seq'_ct, seq'_bk, r_ret, r_set, r_lc, r_mapA, r_nilA, r_consA, r_call, r_c, r_par, r_evalK, r_evalK0, setLR, r_unp, r_mut, r_put, r_aug, r_for, r_iter, r_seqE, r_zip, r_yes, r_noPart, r_aPart, part'_int, r_sl, r_chain, r_chainB, wipR, List.set_cons_zero, List.set_cons_succ, outD_rt, outD_nx, eq_self, decide_true, decide_false, ltC_i, leC_i, gtC_i, geC_i, iadd_i, isub_i, subD_i, addD_i, negD_i, absD_i, intD_i, min2_i, isN_non, isN_i, isN_s, isN_b, isN_t, isNN_non, isNN_i, isNN_s, isNN_b, isNN_t, lenD_l, lenD_t, lenD_r, tupleD_l, tupleD_t, listD_l, listD_t, revD_l, revD_t, iterD_l, iterD_t, iterD_r, seqD_l, seqD_t, seqD_r, ixL1, ixT1, ix20, ix21, ix30, ix31, ix32, ix40, ix41, ix42, ix43, isi_t, isi_tn, isi_tb, isi_ti, isi_ts, isi_tl, isi_bn, isi_bb, isi_bi, isi_bs, isi_bt, isi_in, isi_ib, isi_ii, isi_is, isi_it, isi_sn, isi_sb, isi_si, isi_ss, isi_st, eq_ii, eq_ss, eq_nn, eq_sn, eq_ns, eq_bb, toB_some', g1, g2]
      have hlast := hlast (E sc t (some (eD es)) ot (some (.int (0 + (j : Int)))) none (some (.int x.k)) (some (.lst (f.map tD))) (some (.int x.b)) (some (oI x.e)) (some (.str x.t)) none none none none none) (nr rfl) (nr rfl)
      simp only [E, eD, r_runD, List.map_cons, List.map_nil, List.replicate, List.cons_append, List.nil_append, List.append_nil, r_seq, r_if, r_asB, r_un, r_bin, r_name, at_0, at_s, om_some, om_none, ob_some, ob_none, i_t, i_f, i_tt, i_ff, Bool.false_eq_true, asB'_bl, r_orT, r_andT, r_notT, r_orE, r_andE, r_notE, r_ifE, Bool.not_true, Bool.not_false, r_nil, seq'_nx, seq'_rt, seq'_ct, seq'_bk, r_ret, r_set, r_lc, r_mapA, r_nilA, r_consA, r_call, r_c, r_par, r_evalK, r_evalK0, setLR, r_unp, r_mut, r_put, r_aug, r_for, r_iter, r_seqE, r_zip, r_yes, r_noPart, r_aPart, part'_int, r_sl, r_chain, r_chainB, wipR, List.set_cons_zero, List.set_cons_succ, outD_rt, outD_nx, eq_self, decide_true, decide_false, ltC_i, leC_i, gtC_i, geC_i, iadd_i, isub_i, subD_i, addD_i, negD_i, absD_i, intD_i, min2_i, isN_non, isN_i, isN_s, isN_b, isN_t, isNN_non, isNN_i, isNN_s, isNN_b, isNN_t, lenD_l, lenD_t, lenD_r, tupleD_l, tupleD_t, listD_l, listD_t, revD_l, revD_t, iterD_l, iterD_t, iterD_r, seqD_l, seqD_t, seqD_r, ixL1, ixT1, ix20, ix21, ix30, ix31, ix32, ix40, ix41, ix42, ix43, isi_t, isi_tn, isi_tb, isi_ti, isi_ts, isi_tl, isi_bn, isi_bb, isi_bi, isi_bs, isi_bt, isi_in, isi_ib, isi_ii, isi_is, isi_it, isi_sn, isi_sb, isi_si, isi_ss, isi_st, eq_ii, eq_ss, eq_nn, eq_sn, eq_ns, eq_bb, toB_some'] at hlast
      have hlb : lastOf x ≤ 60 ∧ -60 ≤ lastOf x := by
        have h1 := hxo.k0
        have h2 := hxo.k1
        have h3 := hxo.b0
        unfold lastOf
        cases he : x.e with
        | none => simp only; omega
        | some e => have := hxo.e e he; simp only; split <;> omega
      have hrr : rng2E (nameE 9) (nameE 12) (E sc t (some (eD es)) ot (some (.int (0 + (j : Int)))) none (some (.int x.k)) (some (.lst (f.map tD))) (some (.int x.b)) (some (oI x.e)) (some (.str x.t)) (some (.int (lastOf x))) none none none none) n = some (rngD x.b (lastOf x), n) :=
        rng2_run (m := n) (by simp only [E, r_runD, List.map_cons, List.map_nil, List.replicate, List.cons_append, List.nil_append, List.append_nil, r_seq, r_if, r_asB, r_un, r_bin, r_name, at_0, at_s, om_some, om_none, ob_some, ob_none, i_t, i_f, i_tt, i_ff, Bool.false_eq_true, asB'_bl, r_orT, r_andT, r_notT, r_orE, r_andE, r_notE, r_ifE, Bool.not_true, Bool.not_false, r_nil, seq'_nx, seq'_rt, seq'_ct, seq'_bk, r_ret, r_set, r_lc, r_mapA, r_nilA, r_consA, r_call, r_c, r_par, r_evalK, r_evalK0, setLR, r_unp, r_mut, r_put, r_aug, r_for, r_iter, r_seqE, r_zip, r_yes, r_noPart, r_aPart, part'_int, r_sl, r_chain, r_chainB, wipR, List.set_cons_zero, List.set_cons_succ, outD_rt, outD_nx, eq_self, decide_true, decide_false]) (by simp only [E, r_runD, List.map_cons, List.map_nil, List.replicate, List.cons_append, List.nil_append, List.append_nil, r_seq, r_if, r_asB, r_un, r_bin, r_name, at_0, at_s, om_some, om_none, ob_some, ob_none, i_t, i_f, i_tt, i_ff, Bool.false_eq_true, asB'_bl, r_orT, r_andT, r_notT, r_orE, r_andE, r_notE, r_ifE, Bool.not_true, Bool.not_false, r_nil, seq'_nx, seq'_rt, seq'_ct, seq'_bk, r_ret, r_set, r_lc, r_mapA, r_nilA, r_consA, r_call, r_c, r_par, r_evalK, r_evalK0, setLR, r_unp, r_mut, r_put, r_aug, r_for, r_iter, r_seqE, r_zip, r_yes, r_noPart, r_aPart, part'_int, r_sl, r_chain, r_chainB, wipR, List.set_cons_zero, List.set_cons_succ, outD_rt, outD_nx, eq_self, decide_true, decide_false]) (by have := hxo.b0; have := hxo.b1; omega) (by omega) (by have := hxo.b0; omega)
      have hc := lcGo_map (b := bindN 6) (t := (asB (neE (callE (consA (sl (nameE 3) noPart (aPart (nameE 5))) (consA (nameE 6) (consA (nameE 7) nilA))) (g_law_held)) (nameE 11)))) (el := nameE 6) (n := n)
        (ρ := E sc t (some (eD es)) ot (some (.int (0 + (j : Int)))) none (some (.int x.k)) (some (.lst (f.map tD))) (some (.int x.b)) (some (oI x.e)) (some (.str x.t)) (some (.int (lastOf x))) none none none none) (fun q : Nat => D.int (x.b + (q : Int)))
        (fun q => E sc t (some (eD es)) ot (some (.int (0 + (j : Int)))) (some (.int (x.b + (q : Int)))) (some (.int x.k)) (some (.lst (f.map tD))) (some (.int x.b)) (some (oI x.e)) (some (.str x.t)) (some (.int (lastOf x))) none none none none) (fun q => off es j x (x.b + (q : Int))) (fun q => .int (x.b + (q : Int))) (List.range (lastOf x - x.b).toNat) (fun _ _ => rfl)
        (fun q _ => by simp only [E, eD, r_runD, List.map_cons, List.map_nil, List.replicate, List.cons_append, List.nil_append, List.append_nil, r_seq, r_if, r_asB, r_un, r_bin, r_name, at_0, at_s, om_some, om_none, ob_some, ob_none, i_t, i_f, i_tt, i_ff, Bool.false_eq_true, asB'_bl, r_orT, r_andT, r_notT, r_orE, r_andE, r_notE, r_ifE, Bool.not_true, Bool.not_false, r_nil, seq'_nx, seq'_rt, seq'_ct, seq'_bk, r_ret, r_set, r_lc, r_mapA, r_nilA, r_consA, r_call, r_c, r_par, r_evalK, r_evalK0, setLR, r_unp, r_mut, r_put, r_aug, r_for, r_iter, r_seqE, r_zip, r_yes, r_noPart, r_aPart, part'_int, r_sl, r_chain, r_chainB, wipR, List.set_cons_zero, List.set_cons_succ, outD_rt, outD_nx, eq_self, decide_true, decide_false, ltC_i, leC_i, gtC_i, geC_i, iadd_i, isub_i, subD_i, addD_i, negD_i, absD_i, intD_i, min2_i, isN_non, isN_i, isN_s, isN_b, isN_t, isNN_non, isNN_i, isNN_s, isNN_b, isNN_t, lenD_l, lenD_t, lenD_r, tupleD_l, tupleD_t, listD_l, listD_t, revD_l, revD_t, iterD_l, iterD_t, iterD_r, seqD_l, seqD_t, seqD_r, ixL1, ixT1, ix20, ix21, ix30, ix31, ix32, ix40, ix41, ix42, ix43, isi_t, isi_tn, isi_tb, isi_ti, isi_ts, isi_tl, isi_bn, isi_bb, isi_bi, isi_bs, isi_bt, isi_in, isi_ib, isi_ii, isi_is, isi_it, isi_sn, isi_sb, isi_si, isi_ss, isi_st, eq_ii, eq_ss, eq_nn, eq_sn, eq_ns, eq_bb, toB_some', e2, lheld_run, eq_oSs]; rfl)
        (fun q _ _ => by simp only [E, r_runD, List.map_cons, List.map_nil, List.replicate, List.cons_append, List.nil_append, List.append_nil, r_seq, r_if, r_asB, r_un, r_bin, r_name, at_0, at_s, om_some, om_none, ob_some, ob_none, i_t, i_f, i_tt, i_ff, Bool.false_eq_true, asB'_bl, r_orT, r_andT, r_notT, r_orE, r_andE, r_notE, r_ifE, Bool.not_true, Bool.not_false, r_nil, seq'_nx, seq'_rt, seq'_ct, seq'_bk, r_ret, r_set, r_lc, r_mapA, r_nilA, r_consA, r_call, r_c, r_par, r_evalK, r_evalK0, setLR, r_unp, r_mut, r_put, r_aug, r_for, r_iter, r_seqE, r_zip, r_yes, r_noPart, r_aPart, part'_int, r_sl, r_chain, r_chainB, wipR, List.set_cons_zero, List.set_cons_succ, outD_rt, outD_nx, eq_self, decide_true, decide_false])
      have hdd : rngD x.b (lastOf x) = (List.range (lastOf x - x.b).toNat).map fun q : Nat => D.int (x.b + (q : Int)) := nr rfl
      rw [← hdd] at hc
      have he := eq_nil (plainL_map (fun q : Nat => D.int (x.b + (q : Int))) (fun _ => rfl) ((List.range (lastOf x - x.b).toNat).filter fun q => off es j x (x.b + (q : Int))))
      rw [List.isEmpty_map] at he
      have hap : appD (.lst (f.map tD)) (.tup [.int x.k, .int x.b, .int (lastOf x)]) = some (.lst ((f ++ [(x.k, x.b, lastOf x)]).map tD)) := by
        rw [appD_l (by simp; omega), List.map_append]; rfl
      simp only [E, eD] at hb hrr hc
      cases hq : ((List.range (lastOf x - x.b).toNat).filter fun q : Nat => off es j x (x.b + (q : Int))).isEmpty with
      | true =>
        have hp : ¬ chgL es j x = true := by unfold chgL; rw [hq]; simp
        rw [if_neg hp]
        rw [hq] at he
        refine ⟨by omega, _, E sc t (some (eD es)) ot (some (.int (0 + (j : Int)))) none (some (.int x.k)) (some (.lst (f.map tD))) (some (.int x.b)) (some (oI x.e)) (some (.str x.t)) (some (.int (lastOf x))) none none none none, rfl, .inl ?_, rfl⟩
        simp only [F3, E, eD, r_runD, List.map_cons, List.map_nil, List.replicate, List.cons_append, List.nil_append, List.append_nil, r_seq, r_if, r_asB, r_un, r_bin, r_name, at_0, at_s, om_some, om_none, ob_some, ob_none, i_t, i_f, i_tt, i_ff, Bool.false_eq_true, asB'_bl, r_orT, r_andT, r_notT, r_orE, r_andE, r_notE, r_ifE, Bool.not_true, Bool.not_false, r_nil, seq'_nx, seq'_rt, seq'_ct, seq'_bk, r_ret, r_set, r_lc, r_mapA, r_nilA, r_consA, r_call, r_c, r_par, r_evalK, r_evalK0, setLR, r_unp, r_mut, r_put, r_aug, r_for, r_iter, r_seqE, r_zip, r_yes, r_noPart, r_aPart, part'_int, r_sl, r_chain, r_chainB, wipR, List.set_cons_zero, List.set_cons_succ, outD_rt, outD_nx, eq_self, decide_true, decide_false, ltC_i, leC_i, gtC_i, geC_i, iadd_i, isub_i, subD_i, addD_i, negD_i, absD_i, intD_i, min2_i, isN_non, isN_i, isN_s, isN_b, isN_t, isNN_non, isNN_i, isNN_s, isNN_b, isNN_t, lenD_l, lenD_t, lenD_r, tupleD_l, tupleD_t, listD_l, listD_t, revD_l, revD_t, iterD_l, iterD_t, iterD_r, seqD_l, seqD_t, seqD_r, ixL1, ixT1, ix20, ix21, ix30, ix31, ix32, ix40, ix41, ix42, ix43, isi_t, isi_tn, isi_tb, isi_ti, isi_ts, isi_tl, isi_bn, isi_bb, isi_bi, isi_bs, isi_bt, isi_in, isi_ib, isi_ii, isi_is, isi_it, isi_sn, isi_sb, isi_si, isi_ss, isi_st, eq_ii, eq_ss, eq_nn, eq_sn, eq_ns, eq_bb, toB_some', e1, hb, hlast, hrr, hc, h0, he]
      | false =>
        have hp : chgL es j x = true := by unfold chgL; rw [hq]; rfl
        rw [if_pos hp]
        rw [hq] at he
        refine ⟨by simp; omega, _, E sc t (some (eD es)) ot (some (.int (0 + (j : Int)))) none (some (.int x.k)) (some (.lst ((f ++ [(x.k, x.b, lastOf x)]).map tD))) (some (.int x.b)) (some (oI x.e)) (some (.str x.t)) (some (.int (lastOf x))) none none none none, rfl, .inl ?_, rfl⟩
        simp only [F3, E, eD, r_runD, List.map_cons, List.map_nil, List.replicate, List.cons_append, List.nil_append, List.append_nil, r_seq, r_if, r_asB, r_un, r_bin, r_name, at_0, at_s, om_some, om_none, ob_some, ob_none, i_t, i_f, i_tt, i_ff, Bool.false_eq_true, asB'_bl, r_orT, r_andT, r_notT, r_orE, r_andE, r_notE, r_ifE, Bool.not_true, Bool.not_false, r_nil, seq'_nx, seq'_rt, seq'_ct, seq'_bk, r_ret, r_set, r_lc, r_mapA, r_nilA, r_consA, r_call, r_c, r_par, r_evalK, r_evalK0, setLR, r_unp, r_mut, r_put, r_aug, r_for, r_iter, r_seqE, r_zip, r_yes, r_noPart, r_aPart, part'_int, r_sl, r_chain, r_chainB, wipR, List.set_cons_zero, List.set_cons_succ, outD_rt, outD_nx, eq_self, decide_true, decide_false, ltC_i, leC_i, gtC_i, geC_i, iadd_i, isub_i, subD_i, addD_i, negD_i, absD_i, intD_i, min2_i, isN_non, isN_i, isN_s, isN_b, isN_t, isNN_non, isNN_i, isNN_s, isNN_b, isNN_t, lenD_l, lenD_t, lenD_r, tupleD_l, tupleD_t, listD_l, listD_t, revD_l, revD_t, iterD_l, iterD_t, iterD_r, seqD_l, seqD_t, seqD_r, ixL1, ixT1, ix20, ix21, ix30, ix31, ix32, ix40, ix41, ix42, ix43, isi_t, isi_tn, isi_tb, isi_ti, isi_ts, isi_tl, isi_bn, isi_bb, isi_bi, isi_bs, isi_bt, isi_in, isi_ib, isi_ii, isi_is, isi_it, isi_sn, isi_sb, isi_si, isi_ss, isi_st, eq_ii, eq_ss, eq_nn, eq_sn, eq_ns, eq_bb, toB_some', e1, hb, hlast, hrr, hc, h0, he, tup3, hap])
  rw [← hd] at h1
  show forS _ _ _ _ _ _ = _
  rw [r_for, hr]
  exact h1
/-! ### sorted triples -/
theorem toPy_tD (p : Int × Int × Int) : toPy (tD p) = .tuple [.int p.1, .int p.2.1, .int p.2.2] := rfl
theorem sort_tD (l : List (Int × Int × Int)) : sortD (.lst (l.map tD)) = some (.lst ((l.map tD).mergeSort leD)) := by
  show (if sortOk (l.map tD) = true then some (D.lst ((l.map tD).mergeSort leD)) else none) = _
  rw [if_pos]
  unfold sortOk
  have h1 : plainL (l.map tD) = true := plainL_map tD (fun _ => rfl) l
  have h2 : depL (l.map tD) ≤ 60 := by
    have : ∀ l : List (Int × Int × Int), depL (l.map tD) ≤ 5 := by
      intro l
      induction l with
      | nil => simp [depL, toPyL, PyData.depthAll]
      | cons p l ih =>
        show max (PyData.depth (toPy (tD p))) (PyData.depthAll (toPyL (l.map tD))) ≤ 5
        have : PyData.depth (toPy (tD p)) ≤ 5 := by simp [tD, toPy, toPyL, PyData.depth, PyData.depthAll]
        have : PyData.depthAll (toPyL (l.map tD)) ≤ 5 := ih
        omega
    have := this l
    omega
  have h3 : ((l.map tD).all fun d => (l.map tD).all fun e => PySem.W.alike (toPy d) (toPy e)) = true := by
    rw [List.all_eq_true]
    intro d hd
    rw [List.all_eq_true]
    intro e he
    obtain ⟨p, _, rfl⟩ := List.mem_map.mp hd
    obtain ⟨q, _, rfl⟩ := List.mem_map.mp he
    simp [toPy_tD, PySem.W.alike, PySem.W.alikeAll]
  have h4 : (l.map tD).all tup1 = true := by
    rw [List.all_eq_true]
    intro d hd
    obtain ⟨p, _, rfl⟩ := List.mem_map.mp hd
    rfl
  rw [h1, h3, h4, decide_eq_true h2]; rfl
theorem alike_sorted (l : List (Int × Int × Int)) (hl : l.length ≤ 1000) (n : Nat) : g_law_alike 6 [.tup ((l.map tD).mergeSort leD), .tup ((l.map tD).mergeSort leD)] n = some (.bl true, n) := by
  have hmem : ∀ d ∈ (l.map tD).mergeSort leD, td d = true ∧ dp d ≤ 2 := fun d hd => by
    have := (List.mergeSort_perm (l.map tD) leD).mem_iff.mp hd
    obtain ⟨p, _, rfl⟩ := List.mem_map.mp this
    exact ⟨rfl, by show (2 : Nat) ≤ 2; decide⟩
  have aux : ∀ ds : List D, (∀ d ∈ ds, td d = true ∧ dp d ≤ 2) → tdL ds = true ∧ dpL ds ≤ 2 := by
    intro ds
    induction ds with
    | nil => intro _; exact ⟨rfl, Nat.zero_le _⟩
    | cons d ds ih =>
      intro h
      obtain ⟨g1, g2⟩ := ih fun x hx => h x (List.mem_cons_of_mem _ hx)
      obtain ⟨g3, g4⟩ := h d List.mem_cons_self
      refine ⟨?_, ?_⟩
      · show (td d && tdL ds) = true; rw [g3, g1]; rfl
      · show max (dp d) (dpL ds) ≤ 2; omega
  obtain ⟨g1, g2⟩ := aux _ hmem
  refine alike_refl 6 _ n ?_ ?_
  · show (decide (((l.map tD).mergeSort leD).length ≤ 1000) && tdL ((l.map tD).mergeSort leD)) = true
    rw [g1, List.length_mergeSort, List.length_map, decide_eq_true hl]; rfl
  · show dpL _ + 1 ≤ 6; omega
theorem back_len (es : List En) : (back es).length ≤ es.length := by
  have : ∀ (l : List Nat) (f : List (Int × Int × Int)), (l.foldl (stepC (chgL es) es) f).length ≤ f.length + l.length := by
    intro l
    induction l with
    | nil => intro f; simp
    | cons i l ih =>
      intro f
      have h1 := ih (stepC (chgL es) es f i)
      have h2 : (stepC (chgL es) es f i).length ≤ f.length + 1 := by
        unfold stepC
        split
        · split
          · simp
          · omega
        · omega
      simp only [List.foldl_cons, List.length_cons]
      omega
  have := this (List.range es.length) []
  simpa [back] using this
end K28
namespace K28
open PySem PySem.Spec PyProof.Rows L2 L3
theorem OkE.a {x : En} (h : OkE x) : EnA x := ⟨h.t, fun e he => (h.e e he).1⟩
/-- the two questions answer alike -/
def Both (x : D) : Prop := ∃ b, ∀ n, g_are_entries [x] n = some (.bl b, n) ∧ g_law_are [x] n = some (.bl b, n)
theorem both_good {es : List En} (h : ∀ x ∈ es, EnA x) (hl : es.length ≤ 100) : Both (eD es) := ⟨srt es, fun n => ⟨are_good es h hl n, lare_good es h hl n⟩⟩
theorem both_no {d : D} (h : isiD "tuple" d = some (.bl false)) : Both d := ⟨false, fun n => are_no h n⟩
theorem both_bad {A B : List En} (hA : ∀ x ∈ A, EnA x) (hB : ∀ x ∈ B, EnA x) {d : D} (h : d ∈ bads) : Both (.tup (A.map En.d ++ d :: B.map En.d)) := by
  classical
  refine ⟨false, fun n => ⟨?_, lare_bad A B hA h n⟩⟩
  refine are_bad (fun x => if x ∈ bads then false else true) (fun x hx m => ?_) ⟨d, by simp, by simp [h]⟩ n
  by_cases hb : x ∈ bads
  · simp only [hb, if_true]; exact entry_bad hb m
  · simp only [hb, if_false]
    rcases List.mem_append.mp hx with hx | hx
    · obtain ⟨y, hy, rfl⟩ := List.mem_map.mp hx
      exact entry_run (hA y hy).t (hA y hy).e m
    · rcases List.mem_cons.mp hx with rfl | hx
      · exact absurd h hb
      · obtain ⟨y, hy, rfl⟩ := List.mem_map.mp hx
        exact entry_run (hB y hy).t (hB y hy).e m
def goodOne : En := ⟨1, some 2, 99, "b"⟩
theorem goodOne_a : EnA goodOne := ⟨.inr (.inl rfl), fun e he => by cases he; show (1 : Int) < 2; decide⟩
theorem sl_to (es : List En) (i : Nat) : slD (eD es) none (some (i : Int)) = some (.tup ((es.take i).map En.d)) := by
  have := sl_take es i
  rw [show (0 : Int) + (i : Int) = (i : Int) by omega] at this
  exact this
theorem sl_from (es : List En) (i : Nat) : slD (eD es) (some (i : Int)) none = some (.tup ((es.drop i).map En.d)) := by
  show some (D.tup (L3.cutD (es.map En.d) (some (i : Int)) none)) = _
  rw [cutD_map]
  have : L3.cutD es (some (i : Int)) none = es.drop i := by
    unfold L3.cutD
    rw [HT.sIx_none, HT.sIx_nat]
    by_cases h : i ≤ es.length
    · rw [Nat.min_eq_left h, List.take_of_length_le (by rw [List.length_drop]; omega)]
    · rw [Nat.min_eq_right (by omega), List.drop_of_length_le (i := es.length) (by omega), List.drop_of_length_le (by omega)]; simp
  rw [this]
theorem s11_run (dr : List Int) (es : List En) (hok : ∀ x ∈ es, OkE x) (hl : es.length ≤ 30) (sc t ot kn bk rw md : Option D) (n : Nat) : ∃ n', S11 dr (E sc t (some (eD es)) ot none none kn bk none none none none rw md none none) n = some (.nx (E sc t (some (eD es)) ot none none kn bk none none none none rw md none none), n') := by
  have hr : rng1E (cE (.int 6)) (E sc t (some (eD es)) ot none none kn bk none none none none rw md none none) n = some (rngD 0 6, n) := rng1_run r_c (by decide) (by decide)
  obtain ⟨ρ', n', e, hI⟩ := loopS_inv (b := bindN 5) (drop := [5, 11, 15, 16]) (F := F11 dr) (I := fun ρ _ => ρ = E sc t (some (eD es)) ot none none kn bk none none none none rw md none none) (rngD 0 6) _ n rfl (fun x hx ρ m hI => by
    subst hI
    obtain ⟨r, a1, a2, a3⟩ := next_run dr ((es.length : Int) + 1) (by omega) m
    obtain ⟨i, rfl⟩ : ∃ i : Nat, r = (i : Int) := ⟨r.toNat, by omega⟩
    obtain ⟨own, b1, b2⟩ := pick_run dr [.tup [.int 3, .int 3, .int 0, .str "a"], .tup [.int 3, .int 2, .int 0, .str "a"], .tup [.bl true, .int 4, .int 0, .str "a"], .tup [.int 1, .non, .int 0], .lst [.int 1, .int 2, .int 0, .str "a"], .tup [.int 1, .int 2, .int 99, .str "b"], .tup [.int 1, .str "2", .int 0, .str "a"], .tup [.int 0, .non, .non, .str "a"]] (by simp) (m + 1)
    have cat1 : ∀ A B : List D, A.length + B.length ≤ 1000000 → addD (.tup A) (.tup B) = some (.tup (A ++ B)) := fun A B h => addD_t h
    have hA : addD (.tup ((es.take i).map En.d)) (.tup [own]) = some (.tup ((es.take i).map En.d ++ [own])) := addD_t (by simp; omega)
    have hB : addD (.tup ((es.take i).map En.d ++ [own])) (.tup ((es.drop i).map En.d)) = some (.tup ((es.take i).map En.d ++ [own] ++ (es.drop i).map En.d)) := addD_t (by simp; omega)
    obtain ⟨th, c1, c2⟩ := pick_run dr [eD es, .tup (es.map En.d).reverse, .lst (es.map En.d), .tup ((es.take i).map En.d ++ [own] ++ (es.drop i).map En.d), .tup ((es.take i).map En.d ++ [own] ++ (es.drop i).map En.d), .non] (by simp) (m + 1 + 1)
    have t1 : tupD [own] = some (.tup [own]) := nr rfl
    have l4 : ∀ a b c d : D, lstD [a, b, c, d] = some (.lst [a, b, c, d]) := fun _ _ _ _ => nr rfl
    have l6 : ∀ a b c d e f : D, lstD [a, b, c, d, e, f] = some (.lst [a, b, c, d, e, f]) := fun _ _ _ _ _ _ => nr rfl
    have l8 : ∀ a b c d e f g h : D, lstD [a, b, c, d, e, f, g, h] = some (.lst [a, b, c, d, e, f, g, h]) := fun _ _ _ _ _ _ _ _ => nr rfl
    have s1 := sl_to es i
    have s2 := sl_from es i
    have ha : ∀ x ∈ es, EnA x := fun x hx => (hok x hx).a
    have hat : ∀ x ∈ es.take i, EnA x := fun x hx => ha x (List.mem_of_mem_take hx)
    have had : ∀ x ∈ es.drop i, EnA x := fun x hx => ha x (List.mem_of_mem_drop hx)
    have hcat : Both (.tup ((es.take i).map En.d ++ [own] ++ (es.drop i).map En.d)) := by
      have bad : own ∈ bads → Both (.tup ((es.take i).map En.d ++ [own] ++ (es.drop i).map En.d)) := fun h => by
        have := both_bad hat had h
        rw [List.append_assoc]; exact this
      simp only [List.mem_cons, List.not_mem_nil, or_false] at b1
      rcases b1 with rfl | rfl | rfl | rfl | rfl | rfl | rfl | rfl
      · exact bad (by simp [bads])
      · exact bad (by simp [bads])
      · exact bad (by simp [bads])
      · exact bad (by simp [bads])
      · exact bad (by simp [bads])
      · have e : (es.take i).map En.d ++ [D.tup [.int 1, .int 2, .int 99, .str "b"]] ++ (es.drop i).map En.d = (es.take i ++ [goodOne] ++ es.drop i).map En.d := by
          rw [List.map_append, List.map_append]; rfl
        rw [e]
        refine both_good (fun x hx => ?_) (by simp; omega)
        rcases List.mem_append.mp hx with hx | hx
        · rcases List.mem_append.mp hx with hx | hx
          · exact hat x hx
          · have : x = goodOne := by simpa using hx
            rw [this]; exact goodOne_a
        · exact had x hx
      · exact bad (by simp [bads])
      · exact bad (by simp [bads])
    have hboth : Both th := by
      simp only [List.mem_cons, List.not_mem_nil, or_false] at c1
      rcases c1 with rfl | rfl | rfl | rfl | rfl | rfl
      · exact both_good ha (by omega)
      · rw [← List.map_reverse]; exact both_good (fun x hx => ha x (List.mem_reverse.mp hx)) (by simp; omega)
      · exact both_no isi_tl
      · exact hcat
      · exact hcat
      · exact both_no isi_tn
    obtain ⟨b, hb⟩ := hboth
    obtain ⟨g1, g2⟩ := hb (m + 1 + 1 + 1)
    have g3 := alike_bl b (m + 1 + 1 + 1)
    refine ⟨_, E sc t (some (eD es)) ot (some x) none kn bk none none (some th) none rw md (some own) (some (.int (i : Int))), m + 1 + 1 + 1, rfl, .inl ?_, rfl⟩
    simp only [eD] at s1 s2 c2
    simp only [F11, E, eD, r_runD, List.map_cons, List.map_nil, List.replicate, List.cons_append, List.nil_append, List.append_nil, r_seq, r_if, r_asB, r_un, r_bin, r_name, at_0, at_s, om_some, om_none, ob_some, ob_none, i_t, i_f, i_tt, i_ff, Bool.false_eq_true, asB'_bl, r_orT, r_andT, r_notT, r_orE, r_andE, r_notE, r_ifE, Bool.not_true, Bool.not_false, r_nil, seq'_nx, seq'_rt, seq'_ct, seq'_bk, r_ret, r_set, r_lc, r_mapA, r_nilA, r_consA, r_call, r_c, r_par, r_evalK, r_evalK0, setLR, r_unp, r_mut, r_put, r_aug, r_for, r_iter, r_seqE, r_zip, r_yes, r_noPart, r_aPart, part'_int, r_sl, r_chain, r_chainB, wipR, List.set_cons_zero, List.set_cons_succ, outD_rt, outD_nx, eq_self, decide_true, decide_false, ltC_i, leC_i, gtC_i, geC_i, iadd_i, isub_i, subD_i, addD_i, negD_i, absD_i, intD_i, min2_i, isN_non, isN_i, isN_s, isN_b, isN_t, isNN_non, isNN_i, isNN_s, isNN_b, isNN_t, lenD_l, lenD_t, lenD_r, tupleD_l, tupleD_t, listD_l, listD_t, revD_l, revD_t, iterD_l, iterD_t, iterD_r, seqD_l, seqD_t, seqD_r, ixL1, ixT1, ix20, ix21, ix30, ix31, ix32, ix40, ix41, ix42, ix43, isi_t, isi_tn, isi_tb, isi_ti, isi_ts, isi_tl, isi_bn, isi_bb, isi_bi, isi_bs, isi_bt, isi_in, isi_ib, isi_ii, isi_is, isi_it, isi_sn, isi_sb, isi_si, isi_ss, isi_st, eq_ii, eq_ss, eq_nn, eq_sn, eq_ns, eq_bb, toB_some', List.length_map, a3, tup3, tup4, l4, l8, b2, s1, s2, t1, hA, hB, l6, c2, g1, g2, g3])
  subst hI
  refine ⟨n', ?_⟩
  show forS _ _ _ _ _ _ = _
  rw [r_for, hr]
  exact e
theorem srt_mk (R : List Rw) (k : Int) : srt (R.map (mk k)) = true := by
  unfold srt
  rw [List.all_eq_true]
  intro i hi
  have hi := List.mem_range.mp hi
  rw [List.length_map] at hi
  have h : ∀ j, j < R.length → kk (R.map (mk k)) j = k := fun j hj => by
    unfold kk
    rw [List.map_map, List.getElem?_map, List.getElem?_eq_getElem hj]; rfl
  rw [h i (by omega), h (i + 1) (by omega)]
  simp
theorem turn_run (dr : List Int) (sc t : Option D) (n : Nat) : ∃ ρ2 n', B0 dr (E sc t none none none none none none none none none none none none none none) n = some (.nx ρ2, n') ∧ wipR ρ2 [2, 3, 4, 5, 6, 7, 8, 9, 10, 11, 12, 13, 14, 15, 16] = E sc none none none none none none none none none none none none none none none := by
  have h0 := lst0
  obtain ⟨es, n1, l1, ok1, e1⟩ := entries_run dr n
  obtain ⟨os, n2, l2, ok2, e2⟩ := entries_run dr n1
  have q0 : S0 dr (E sc t none none none none none none none none none none none none none none) n = some (.nx (E sc t (some (eD es)) (some (eD os)) none none none none none none none none none none none none), n2) := by
    simp only [S0, E, eD, r_runD, List.map_cons, List.map_nil, List.replicate, List.cons_append, List.nil_append, List.append_nil, r_seq, r_if, r_asB, r_un, r_bin, r_name, at_0, at_s, om_some, om_none, ob_some, ob_none, i_t, i_f, i_tt, i_ff, Bool.false_eq_true, asB'_bl, r_orT, r_andT, r_notT, r_orE, r_andE, r_notE, r_ifE, Bool.not_true, Bool.not_false, r_nil, seq'_nx, seq'_rt, seq'_ct, seq'_bk, r_ret, r_set, r_lc, r_mapA, r_nilA, r_consA, r_call, r_c, r_par, r_evalK, r_evalK0, setLR, r_unp, r_mut, r_put, r_aug, r_for, r_iter, r_seqE, r_zip, r_yes, r_noPart, r_aPart, part'_int, r_sl, r_chain, r_chainB, wipR, List.set_cons_zero, List.set_cons_succ, outD_rt, outD_nx, eq_self, decide_true, decide_false, e1, e2]
  obtain ⟨n3, q1⟩ := s1_run dr es ok1 (by omega) sc t (some (eD os)) n2
  have q2 : S2 dr (E sc t (some (eD es)) (some (eD os)) none none none none none none none none none none none none) n3 = some (.nx (E sc t (some (eD es)) (some (eD os)) none none none (some (.lst [])) none none none none none none none none), n3) := by
    simp only [S2, E, eD, r_runD, List.map_cons, List.map_nil, List.replicate, List.cons_append, List.nil_append, List.append_nil, r_seq, r_if, r_asB, r_un, r_bin, r_name, at_0, at_s, om_some, om_none, ob_some, ob_none, i_t, i_f, i_tt, i_ff, Bool.false_eq_true, asB'_bl, r_orT, r_andT, r_notT, r_orE, r_andE, r_notE, r_ifE, Bool.not_true, Bool.not_false, r_nil, seq'_nx, seq'_rt, seq'_ct, seq'_bk, r_ret, r_set, r_lc, r_mapA, r_nilA, r_consA, r_call, r_c, r_par, r_evalK, r_evalK0, setLR, r_unp, r_mut, r_put, r_aug, r_for, r_iter, r_seqE, r_zip, r_yes, r_noPart, r_aPart, part'_int, r_sl, r_chain, r_chainB, wipR, List.set_cons_zero, List.set_cons_succ, outD_rt, outD_nx, eq_self, decide_true, decide_false, h0]
  have q3 := s3_run dr es ok1 (by omega) sc t (some (eD os)) n3
  have b1 := back_run es (by omega) n3
  rw [sort_tD] at b1
  simp only [ob_some, tupleD_l, om_some] at b1
  have b2 := sort_tD (back es)
  have b3 := alike_sorted (back es) (by have := back_len es; omega) n3
  have q4 : S4 dr (E sc t (some (eD es)) (some (eD os)) none none none (some (.lst ((back es).map tD))) none none none none none none none none) n3 = some (.nx (E sc t (some (eD es)) (some (eD os)) none none none (some (.lst ((back es).map tD))) none none none none none none none none), n3) := by
    simp only [S4, E, eD, r_runD, List.map_cons, List.map_nil, List.replicate, List.cons_append, List.nil_append, List.append_nil, r_seq, r_if, r_asB, r_un, r_bin, r_name, at_0, at_s, om_some, om_none, ob_some, ob_none, i_t, i_f, i_tt, i_ff, Bool.false_eq_true, asB'_bl, r_orT, r_andT, r_notT, r_orE, r_andE, r_notE, r_ifE, Bool.not_true, Bool.not_false, r_nil, seq'_nx, seq'_rt, seq'_ct, seq'_bk, r_ret, r_set, r_lc, r_mapA, r_nilA, r_consA, r_call, r_c, r_par, r_evalK, r_evalK0, setLR, r_unp, r_mut, r_put, r_aug, r_for, r_iter, r_seqE, r_zip, r_yes, r_noPart, r_aPart, part'_int, r_sl, r_chain, r_chainB, wipR, List.set_cons_zero, List.set_cons_succ, outD_rt, outD_nx, eq_self, decide_true, decide_false, ltC_i, leC_i, gtC_i, geC_i, iadd_i, isub_i, subD_i, addD_i, negD_i, absD_i, intD_i, min2_i, isN_non, isN_i, isN_s, isN_b, isN_t, isNN_non, isNN_i, isNN_s, isNN_b, isNN_t, lenD_l, lenD_t, lenD_r, tupleD_l, tupleD_t, listD_l, listD_t, revD_l, revD_t, iterD_l, iterD_t, iterD_r, seqD_l, seqD_t, seqD_r, ixL1, ixT1, ix20, ix21, ix30, ix31, ix32, ix40, ix41, ix42, ix43, isi_t, isi_tn, isi_tb, isi_ti, isi_ts, isi_tl, isi_bn, isi_bb, isi_bi, isi_bs, isi_bt, isi_in, isi_ib, isi_ii, isi_is, isi_it, isi_sn, isi_sb, isi_si, isi_ss, isi_st, eq_ii, eq_ss, eq_nn, eq_sn, eq_ns, eq_bb, toB_some', b1, b2, b3]
  obtain ⟨k, k1, k2, k3⟩ := next_run dr 9 (by decide) n3
  have q5 : S5 dr (E sc t (some (eD es)) (some (eD os)) none none none (some (.lst ((back es).map tD))) none none none none none none none none) n3 = some (.nx (E sc t (some (eD es)) (some (eD os)) none none (some (.int k)) (some (.lst ((back es).map tD))) none none none none none none none none), n3 + 1) := by
    simp only [S5, E, eD, r_runD, List.map_cons, List.map_nil, List.replicate, List.cons_append, List.nil_append, List.append_nil, r_seq, r_if, r_asB, r_un, r_bin, r_name, at_0, at_s, om_some, om_none, ob_some, ob_none, i_t, i_f, i_tt, i_ff, Bool.false_eq_true, asB'_bl, r_orT, r_andT, r_notT, r_orE, r_andE, r_notE, r_ifE, Bool.not_true, Bool.not_false, r_nil, seq'_nx, seq'_rt, seq'_ct, seq'_bk, r_ret, r_set, r_lc, r_mapA, r_nilA, r_consA, r_call, r_c, r_par, r_evalK, r_evalK0, setLR, r_unp, r_mut, r_put, r_aug, r_for, r_iter, r_seqE, r_zip, r_yes, r_noPart, r_aPart, part'_int, r_sl, r_chain, r_chainB, wipR, List.set_cons_zero, List.set_cons_succ, outD_rt, outD_nx, eq_self, decide_true, decide_false, k3]
  have r1 := lrow_run es 99 (n3 + 1)
  have q6 : S6 dr (E sc t (some (eD es)) (some (eD os)) none none (some (.int k)) (some (.lst ((back es).map tD))) none none none none none none none none) (n3 + 1) = some (.nx (E sc t (some (eD es)) (some (eD os)) none none (some (.int k)) (some (.lst ((back es).map tD))) none none none none (some (.tup ((rowL es 99).map Rw.d))) none none none), n3 + 1) := by
    simp only [S6, E, eD, r_runD, List.map_cons, List.map_nil, List.replicate, List.cons_append, List.nil_append, List.append_nil, r_seq, r_if, r_asB, r_un, r_bin, r_name, at_0, at_s, om_some, om_none, ob_some, ob_none, i_t, i_f, i_tt, i_ff, Bool.false_eq_true, asB'_bl, r_orT, r_andT, r_notT, r_orE, r_andE, r_notE, r_ifE, Bool.not_true, Bool.not_false, r_nil, seq'_nx, seq'_rt, seq'_ct, seq'_bk, r_ret, r_set, r_lc, r_mapA, r_nilA, r_consA, r_call, r_c, r_par, r_evalK, r_evalK0, setLR, r_unp, r_mut, r_put, r_aug, r_for, r_iter, r_seqE, r_zip, r_yes, r_noPart, r_aPart, part'_int, r_sl, r_chain, r_chainB, wipR, List.set_cons_zero, List.set_cons_succ, outD_rt, outD_nx, eq_self, decide_true, decide_false, r1]
  have r2 := least_run (rowL es 99) k (n3 + 1)
  have q7 : S7 dr (E sc t (some (eD es)) (some (eD os)) none none (some (.int k)) (some (.lst ((back es).map tD))) none none none none (some (.tup ((rowL es 99).map Rw.d))) none none none) (n3 + 1) = some (.nx (E sc t (some (eD es)) (some (eD os)) none none (some (.int k)) (some (.lst ((back es).map tD))) none none none none (some (.tup ((rowL es 99).map Rw.d))) (some (eD ((rowL es 99).map (mk k)))) none none), n3 + 1) := by
    simp only [S7, E, eD, r_runD, List.map_cons, List.map_nil, List.replicate, List.cons_append, List.nil_append, List.append_nil, r_seq, r_if, r_asB, r_un, r_bin, r_name, at_0, at_s, om_some, om_none, ob_some, ob_none, i_t, i_f, i_tt, i_ff, Bool.false_eq_true, asB'_bl, r_orT, r_andT, r_notT, r_orE, r_andE, r_notE, r_ifE, Bool.not_true, Bool.not_false, r_nil, seq'_nx, seq'_rt, seq'_ct, seq'_bk, r_ret, r_set, r_lc, r_mapA, r_nilA, r_consA, r_call, r_c, r_par, r_evalK, r_evalK0, setLR, r_unp, r_mut, r_put, r_aug, r_for, r_iter, r_seqE, r_zip, r_yes, r_noPart, r_aPart, part'_int, r_sl, r_chain, r_chainB, wipR, List.set_cons_zero, List.set_cons_succ, outD_rt, outD_nx, eq_self, decide_true, decide_false, r2]
  have okM : ∀ x ∈ (rowL es 99).map (mk k), OkE x := made_ok ok1 99 k k1 (by omega)
  have lenM : ((rowL es 99).map (mk k)).length ≤ 22 := by rw [List.length_map]; exact (row_ok ok1 99).2
  have r3 := lare_good ((rowL es 99).map (mk k)) (fun x hx => (okM x hx).a) (by omega) (n3 + 1)
  rw [srt_mk] at r3
  have r4 := lrow_run ((rowL es 99).map (mk k)) k (n3 + 1)
  rw [row_made] at r4
  have r5 := eq_rows (rowL es 99) (rowL es 99)
  rw [deq_refl _ (plain_row _)] at r5
  have hc := lcGo_map (b := bindN 15) (t := (asB (neE (L3.bin (nameE 15) (cE (.int 2)) ixD) (nameE 7)))) (el := nameE 15) (n := n3 + 1)
    (ρ := E sc t (some (eD es)) (some (eD os)) none none (some (.int k)) (some (.lst ((back es).map tD))) none none none none (some (.tup ((rowL es 99).map Rw.d))) (some (eD ((rowL es 99).map (mk k)))) none none) En.d
    (fun x => E sc t (some (eD es)) (some (eD os)) none none (some (.int k)) (some (.lst ((back es).map tD))) none none none none (some (.tup ((rowL es 99).map Rw.d))) (some (eD ((rowL es 99).map (mk k)))) (some x.d) none) (fun _ => false) En.d ((rowL es 99).map (mk k)) (fun _ _ => rfl)
    (fun x hx => by
      obtain ⟨r, _, rfl⟩ := List.mem_map.mp hx
      have e : ixD (mk k r).d (.int 2) = some (.int k) := nr rfl
      simp only [E, r_runD, List.map_cons, List.map_nil, List.replicate, List.cons_append, List.nil_append, List.append_nil, r_seq, r_if, r_asB, r_un, r_bin, r_name, at_0, at_s, om_some, om_none, ob_some, ob_none, i_t, i_f, i_tt, i_ff, Bool.false_eq_true, asB'_bl, r_orT, r_andT, r_notT, r_orE, r_andE, r_notE, r_ifE, Bool.not_true, Bool.not_false, r_nil, seq'_nx, seq'_rt, seq'_ct, seq'_bk, r_ret, r_set, r_lc, r_mapA, r_nilA, r_consA, r_call, r_c, r_par, r_evalK, r_evalK0, setLR, r_unp, r_mut, r_put, r_aug, r_for, r_iter, r_seqE, r_zip, r_yes, r_noPart, r_aPart, part'_int, r_sl, r_chain, r_chainB, wipR, List.set_cons_zero, List.set_cons_succ, outD_rt, outD_nx, eq_self, decide_true, decide_false, ltC_i, leC_i, gtC_i, geC_i, iadd_i, isub_i, subD_i, addD_i, negD_i, absD_i, intD_i, min2_i, isN_non, isN_i, isN_s, isN_b, isN_t, isNN_non, isNN_i, isNN_s, isNN_b, isNN_t, lenD_l, lenD_t, lenD_r, tupleD_l, tupleD_t, listD_l, listD_t, revD_l, revD_t, iterD_l, iterD_t, iterD_r, seqD_l, seqD_t, seqD_r, ixL1, ixT1, ix20, ix21, ix30, ix31, ix32, ix40, ix41, ix42, ix43, isi_t, isi_tn, isi_tb, isi_ti, isi_ts, isi_tl, isi_bn, isi_bb, isi_bi, isi_bs, isi_bt, isi_in, isi_ib, isi_ii, isi_is, isi_it, isi_sn, isi_sb, isi_si, isi_ss, isi_st, eq_ii, eq_ss, eq_nn, eq_sn, eq_ns, eq_bb, toB_some', e])
    (fun _ _ h => by cases h)
  rw [List.filter_eq_nil_iff.mpr (fun _ _ => by simp)] at hc
  simp only [E, eD, List.map_nil] at hc
  have q8 : S8 dr (E sc t (some (eD es)) (some (eD os)) none none (some (.int k)) (some (.lst ((back es).map tD))) none none none none (some (.tup ((rowL es 99).map Rw.d))) (some (eD ((rowL es 99).map (mk k)))) none none) (n3 + 1) = some (.nx (E sc t (some (eD es)) (some (eD os)) none none (some (.int k)) (some (.lst ((back es).map tD))) none none none none (some (.tup ((rowL es 99).map Rw.d))) (some (eD ((rowL es 99).map (mk k)))) none none), n3 + 1) := by
    simp only [S8, E, eD, r_runD, List.map_cons, List.map_nil, List.replicate, List.cons_append, List.nil_append, List.append_nil, r_seq, r_if, r_asB, r_un, r_bin, r_name, at_0, at_s, om_some, om_none, ob_some, ob_none, i_t, i_f, i_tt, i_ff, Bool.false_eq_true, asB'_bl, r_orT, r_andT, r_notT, r_orE, r_andE, r_notE, r_ifE, Bool.not_true, Bool.not_false, r_nil, seq'_nx, seq'_rt, seq'_ct, seq'_bk, r_ret, r_set, r_lc, r_mapA, r_nilA, r_consA, r_call, r_c, r_par, r_evalK, r_evalK0, setLR, r_unp, r_mut, r_put, r_aug, r_for, r_iter, r_seqE, r_zip, r_yes, r_noPart, r_aPart, part'_int, r_sl, r_chain, r_chainB, wipR, List.set_cons_zero, List.set_cons_succ, outD_rt, outD_nx, eq_self, decide_true, decide_false, ltC_i, leC_i, gtC_i, geC_i, iadd_i, isub_i, subD_i, addD_i, negD_i, absD_i, intD_i, min2_i, isN_non, isN_i, isN_s, isN_b, isN_t, isNN_non, isNN_i, isNN_s, isNN_b, isNN_t, lenD_l, lenD_t, lenD_r, tupleD_l, tupleD_t, listD_l, listD_t, revD_l, revD_t, iterD_l, iterD_t, iterD_r, seqD_l, seqD_t, seqD_r, ixL1, ixT1, ix20, ix21, ix30, ix31, ix32, ix40, ix41, ix42, ix43, isi_t, isi_tn, isi_tb, isi_ti, isi_ts, isi_tl, isi_bn, isi_bb, isi_bi, isi_bs, isi_bt, isi_in, isi_ib, isi_ii, isi_is, isi_it, isi_sn, isi_sb, isi_si, isi_ss, isi_st, eq_ii, eq_ss, eq_nn, eq_sn, eq_ns, eq_bb, toB_some', r3, hc, h0, eq00, r4, r5]
  -- the other entries
  have ad : addD (eD es) (.tup ((es.take 1).map En.d)) = some (eD (es ++ es.take 1)) := by
    show addD (.tup (es.map En.d)) _ = _
    rw [addD_t (by simp; omega), ← List.map_append]
  have s1 := sl_to es 1
  have s2 := sl_from es 1
  obtain ⟨x, p1, p2⟩ := pick_run dr [eD os, eD ((rowL es 99).map (mk k)), eD (es ++ es.take 1), .tup ((es.drop 1).map En.d), eD es] (by simp) (n3 + 1)
  have l5 : ∀ a b c d e : D, lstD [a, b, c, d, e] = some (.lst [a, b, c, d, e]) := fun _ _ _ _ _ => nr rfl
  obtain ⟨zs, rfl, okz, lz⟩ : ∃ zs : List En, x = eD zs ∧ (∀ y ∈ zs, OkE y) ∧ zs.length ≤ 30 := by
    simp only [List.mem_cons, List.not_mem_nil, or_false] at p1
    rcases p1 with rfl | rfl | rfl | rfl | rfl
    · exact ⟨_, rfl, ok2, by omega⟩
    · exact ⟨_, rfl, okM, by omega⟩
    · refine ⟨_, rfl, fun y hy => ?_, by simp; omega⟩
      rcases List.mem_append.mp hy with hy | hy
      · exact ok1 y hy
      · exact ok1 y (List.mem_of_mem_take hy)
    · exact ⟨es.drop 1, rfl, fun y hy => ok1 y (List.mem_of_mem_drop hy), by simp; omega⟩
    · exact ⟨_, rfl, ok1, by omega⟩
  simp only [eD] at ad s1 s2 p2
  have q9 : S9 dr (E sc t (some (eD es)) (some (eD os)) none none (some (.int k)) (some (.lst ((back es).map tD))) none none none none (some (.tup ((rowL es 99).map Rw.d))) (some (eD ((rowL es 99).map (mk k)))) none none) (n3 + 1) = some (.nx (E sc t (some (eD es)) (some (eD zs)) none none (some (.int k)) (some (.lst ((back es).map tD))) none none none none (some (.tup ((rowL es 99).map Rw.d))) (some (eD ((rowL es 99).map (mk k)))) none none), n3 + 1 + 1) := by
    have s1' : slD (.tup (es.map En.d)) none (some 1) = some (.tup ((es.take 1).map En.d)) := s1
    have s2' : slD (.tup (es.map En.d)) (some 1) none = some (.tup ((es.drop 1).map En.d)) := s2
    simp only [S9, E, eD, r_runD, List.map_cons, List.map_nil, List.replicate, List.cons_append, List.nil_append, List.append_nil, r_seq, r_if, r_asB, r_un, r_bin, r_name, at_0, at_s, om_some, om_none, ob_some, ob_none, i_t, i_f, i_tt, i_ff, Bool.false_eq_true, asB'_bl, r_orT, r_andT, r_notT, r_orE, r_andE, r_notE, r_ifE, Bool.not_true, Bool.not_false, r_nil, seq'_nx, seq'_rt, seq'_ct, seq'_bk, r_ret, r_set, r_lc, r_mapA, r_nilA, r_consA, r_call, r_c, r_par, r_evalK, r_evalK0, setLR, r_unp, r_mut, r_put, r_aug, r_for, r_iter, r_seqE, r_zip, r_yes, r_noPart, r_aPart, part'_int, r_sl, r_chain, r_chainB, wipR, List.set_cons_zero, List.set_cons_succ, outD_rt, outD_nx, eq_self, decide_true, decide_false, ltC_i, leC_i, gtC_i, geC_i, iadd_i, isub_i, subD_i, addD_i, negD_i, absD_i, intD_i, min2_i, isN_non, isN_i, isN_s, isN_b, isN_t, isNN_non, isNN_i, isNN_s, isNN_b, isNN_t, lenD_l, lenD_t, lenD_r, tupleD_l, tupleD_t, listD_l, listD_t, revD_l, revD_t, iterD_l, iterD_t, iterD_r, seqD_l, seqD_t, seqD_r, ixL1, ixT1, ix20, ix21, ix30, ix31, ix32, ix40, ix41, ix42, ix43, isi_t, isi_tn, isi_tb, isi_ti, isi_ts, isi_tl, isi_bn, isi_bb, isi_bi, isi_bs, isi_bt, isi_in, isi_ib, isi_ii, isi_is, isi_it, isi_sn, isi_sb, isi_si, isi_ss, isi_st, eq_ii, eq_ss, eq_nn, eq_sn, eq_ns, eq_bb, toB_some', s1', s2', ad, l5, p2]
  have z1 := lare_good zs (fun y hy => (okz y hy).a) (by omega) (n3 + 1 + 1)
  have z2 := same_run es zs (n3 + 1 + 1) ok1 okz (by omega) lz
  have z3 := lrow_run es 99 (n3 + 1 + 1)
  have z4 := lrow_run zs 99 (n3 + 1 + 1)
  have z5 := eq_rows (rowL es 99) (rowL zs 99)
  have z6 := alike_bl (deq (.tup ((rowL es 99).map Rw.d)) (.tup ((rowL zs 99).map Rw.d))) (n3 + 1 + 1)
  have q10 : S10 dr (E sc t (some (eD es)) (some (eD zs)) none none (some (.int k)) (some (.lst ((back es).map tD))) none none none none (some (.tup ((rowL es 99).map Rw.d))) (some (eD ((rowL es 99).map (mk k)))) none none) (n3 + 1 + 1) = some (.nx (E sc t (some (eD es)) (some (eD zs)) none none (some (.int k)) (some (.lst ((back es).map tD))) none none none none (some (.tup ((rowL es 99).map Rw.d))) (some (eD ((rowL es 99).map (mk k)))) none none), n3 + 1 + 1) := by
    cases hs : srt zs with
    | true =>
      rw [hs] at z1
      simp only [S10, E, eD, r_runD, List.map_cons, List.map_nil, List.replicate, List.cons_append, List.nil_append, List.append_nil, r_seq, r_if, r_asB, r_un, r_bin, r_name, at_0, at_s, om_some, om_none, ob_some, ob_none, i_t, i_f, i_tt, i_ff, Bool.false_eq_true, asB'_bl, r_orT, r_andT, r_notT, r_orE, r_andE, r_notE, r_ifE, Bool.not_true, Bool.not_false, r_nil, seq'_nx, seq'_rt, seq'_ct, seq'_bk, r_ret, r_set, r_lc, r_mapA, r_nilA, r_consA, r_call, r_c, r_par, r_evalK, r_evalK0, setLR, r_unp, r_mut, r_put, r_aug, r_for, r_iter, r_seqE, r_zip, r_yes, r_noPart, r_aPart, part'_int, r_sl, r_chain, r_chainB, wipR, List.set_cons_zero, List.set_cons_succ, outD_rt, outD_nx, eq_self, decide_true, decide_false, ltC_i, leC_i, gtC_i, geC_i, iadd_i, isub_i, subD_i, addD_i, negD_i, absD_i, intD_i, min2_i, isN_non, isN_i, isN_s, isN_b, isN_t, isNN_non, isNN_i, isNN_s, isNN_b, isNN_t, lenD_l, lenD_t, lenD_r, tupleD_l, tupleD_t, listD_l, listD_t, revD_l, revD_t, iterD_l, iterD_t, iterD_r, seqD_l, seqD_t, seqD_r, ixL1, ixT1, ix20, ix21, ix30, ix31, ix32, ix40, ix41, ix42, ix43, isi_t, isi_tn, isi_tb, isi_ti, isi_ts, isi_tl, isi_bn, isi_bb, isi_bi, isi_bs, isi_bt, isi_in, isi_ib, isi_ii, isi_is, isi_it, isi_sn, isi_sb, isi_si, isi_ss, isi_st, eq_ii, eq_ss, eq_nn, eq_sn, eq_ns, eq_bb, toB_some', z1, z2, z3, z4, z5, z6]
    | false =>
      rw [hs] at z1
      simp only [S10, E, eD, r_runD, List.map_cons, List.map_nil, List.replicate, List.cons_append, List.nil_append, List.append_nil, r_seq, r_if, r_asB, r_un, r_bin, r_name, at_0, at_s, om_some, om_none, ob_some, ob_none, i_t, i_f, i_tt, i_ff, Bool.false_eq_true, asB'_bl, r_orT, r_andT, r_notT, r_orE, r_andE, r_notE, r_ifE, Bool.not_true, Bool.not_false, r_nil, seq'_nx, seq'_rt, seq'_ct, seq'_bk, r_ret, r_set, r_lc, r_mapA, r_nilA, r_consA, r_call, r_c, r_par, r_evalK, r_evalK0, setLR, r_unp, r_mut, r_put, r_aug, r_for, r_iter, r_seqE, r_zip, r_yes, r_noPart, r_aPart, part'_int, r_sl, r_chain, r_chainB, wipR, List.set_cons_zero, List.set_cons_succ, outD_rt, outD_nx, eq_self, decide_true, decide_false, ltC_i, leC_i, gtC_i, geC_i, iadd_i, isub_i, subD_i, addD_i, negD_i, absD_i, intD_i, min2_i, isN_non, isN_i, isN_s, isN_b, isN_t, isNN_non, isNN_i, isNN_s, isNN_b, isNN_t, lenD_l, lenD_t, lenD_r, tupleD_l, tupleD_t, listD_l, listD_t, revD_l, revD_t, iterD_l, iterD_t, iterD_r, seqD_l, seqD_t, seqD_r, ixL1, ixT1, ix20, ix21, ix30, ix31, ix32, ix40, ix41, ix42, ix43, isi_t, isi_tn, isi_tb, isi_ti, isi_ts, isi_tl, isi_bn, isi_bb, isi_bi, isi_bs, isi_bt, isi_in, isi_ib, isi_ii, isi_is, isi_it, isi_sn, isi_sb, isi_si, isi_ss, isi_st, eq_ii, eq_ss, eq_nn, eq_sn, eq_ns, eq_bb, toB_some', z1]
  obtain ⟨n4, q11⟩ := s11_run dr es ok1 (by omega) sc t (some (eD zs)) (some (.int k)) (some (.lst ((back es).map tD))) (some (.tup ((rowL es 99).map Rw.d))) (some (eD ((rowL es 99).map (mk k)))) (n3 + 1 + 1)
  refine ⟨E sc t (some (eD es)) (some (eD zs)) none none (some (.int k)) (some (.lst ((back es).map tD))) none none none none (some (.tup ((rowL es 99).map Rw.d))) (some (eD ((rowL es 99).map (mk k)))) none none, n4, ?_, rfl⟩
  rw [B0, seq_nx q0, seq_nx q1, seq_nx q2, seq_nx q3, seq_nx q4, seq_nx q5, seq_nx q6, seq_nx q7, seq_nx q8, seq_nx q9, seq_nx q10, seq_nx q11]
  exact r_nil
theorem rest_run (dr : List Int) (sc : Option D) (n : Nat) : ∃ n', f_lawrest dr (E sc none none none none none none none none none none none none none none none) n = some (.rt (.bl true), n') := by
  have hr : rng1E (cE (.int 7)) (E sc none none none none none none none none none none none none none none none) n = some (rngD 0 7, n) := rng1_run r_c (by decide) (by decide)
  obtain ⟨ρ', n', e, hI⟩ := loopS_inv (b := bindN 2) (drop := [2, 3, 4, 5, 6, 7, 8, 9, 10, 11, 12, 13, 14, 15, 16]) (F := B0 dr) (I := fun ρ _ => ρ = E sc none none none none none none none none none none none none none none none) (rngD 0 7) _ n rfl (fun x hx ρ m hI => by
    subst hI
    obtain ⟨ρ2, m', h1, h2⟩ := turn_run dr sc (some x) m
    exact ⟨E sc (some x) none none none none none none none none none none none none none none, ρ2, m', rfl, .inl h1, h2⟩)
  subst hI
  refine ⟨n', ?_⟩
  rw [rest_eq, seq_nx (ρ' := E sc none none none none none none none none none none none none none none none) (n' := n') (by rw [r_for, hr]; exact e), r_ret, r_c]
  rfl
theorem world_run {i : Nat} {f : Ro → M D} {G : List Int → SF} {ρ : Ro} {n m n' : Nat} {dr : List Int} {b : Bool} (h1 : f ρ n = some (.lst (dr.map .int), m)) (h2 : G dr (ρ.set i (some .w)) 0 = some (.rt (.bl b), n')) : worldS i f G ρ n = some (.rt (.bl b), n') := by
  unfold worldS
  rw [h1]
  simp only [intsD_map, h2]
theorem law_def : f_law = worldS 1 (callE (consA (nameE 0) (consA (cE (.int 600)) nilA)) (g_law_draws)) f_lawrest := rfl
theorem maths : ∀ ns : List Int, ns.length ≤ 63 → ∃ n', f_law (some (.rol (ns.map .int)) :: List.replicate 16 none) 0 = some (.rt (.bl true), n') := fun ns hl => by
  obtain ⟨dr, h1⟩ := draws_run ns hl 0
  obtain ⟨n', h2⟩ := rest_run dr (some (.rol (ns.map .int))) 0
  have h3 : callE (consA (nameE 0) (consA (cE (.int 600)) nilA)) (g_law_draws) (some (.rol (ns.map .int)) :: List.replicate 16 none) 0 = some (.lst (dr.map .int), 0) := by
    rw [r_call, r_consA, r_name, at_0, om_some, ob_some, r_consA, r_c, ob_some, r_nilA, ob_some, ob_some, ob_some, h1]
  have e : (some (D.rol (ns.map .int)) :: List.replicate 16 none).set 1 (some .w) = E (some (.rol (ns.map .int))) none none none none none none none none none none none none none none none := rfl
  refine ⟨n', ?_⟩
  rw [law_def]
  refine world_run h3 ?_
  rw [e]
  exact h2
end K28
namespace K28
open PySem PySem.Spec PyProof.Rows L2 L3
theorem all_mk     {l : PySem.W.OpenLaw} {w : World} {K : PySem.W.Frag} {h : Heap} {mg : Str → Option Value} {fa : Addr}
    {f0 : Addr} {od0 an0 : Option Addr} {sl0 : Array (Option Value)} {oc0 kV0 dc0 pm0 cd0 ct0 : Value}
    {f1 : Addr} {od1 an1 : Option Addr} {sl1 : Array (Option Value)} {oc1 kV1 dc1 pm1 cd1 ct1 : Value}
    {f2 : Addr} {od2 an2 : Option Addr} {sl2 : Array (Option Value)} {oc2 kV2 dc2 pm2 cd2 ct2 : Value}
    {f3 : Addr} {od3 an3 : Option Addr} {sl3 : Array (Option Value)} {oc3 kV3 dc3 pm3 cd3 ct3 : Value}
    {f4 : Addr} {od4 an4 : Option Addr} {sl4 : Array (Option Value)} {oc4 kV4 dc4 pm4 cd4 ct4 : Value}
    {f5 : Addr} {od5 an5 : Option Addr} {sl5 : Array (Option Value)} {oc5 kV5 dc5 pm5 cd5 ct5 : Value}
    {f6 : Addr} {od6 an6 : Option Addr} {sl6 : Array (Option Value)} {oc6 kV6 dc6 pm6 cd6 ct6 : Value}
    {f7 : Addr} {od7 an7 : Option Addr} {sl7 : Array (Option Value)} {oc7 kV7 dc7 pm7 cd7 ct7 : Value}
    {f8 : Addr} {od8 an8 : Option Addr} {sl8 : Array (Option Value)} {oc8 kV8 dc8 pm8 cd8 ct8 : Value}
    {f9 : Addr} {od9 an9 : Option Addr} {sl9 : Array (Option Value)} {oc9 kV9 dc9 pm9 cd9 ct9 : Value}
    {f10 : Addr} {od10 an10 : Option Addr} {sl10 : Array (Option Value)} {oc10 kV10 dc10 pm10 cd10 ct10 : Value}
    {f11 : Addr} {od11 an11 : Option Addr} {sl11 : Array (Option Value)} {oc11 kV11 dc11 pm11 cd11 ct11 : Value}
    {f12 : Addr} {od12 an12 : Option Addr} {sl12 : Array (Option Value)} {oc12 kV12 dc12 pm12 cd12 ct12 : Value}
    {f13 : Addr} {od13 an13 : Option Addr} {sl13 : Array (Option Value)} {oc13 kV13 dc13 pm13 cd13 ct13 : Value}
    {f14 : Addr} {od14 an14 : Option Addr} {sl14 : Array (Option Value)} {oc14 kV14 dc14 pm14 cd14 ct14 : Value}
    {f15 : Addr} {od15 an15 : Option Addr} {sl15 : Array (Option Value)} {oc15 kV15 dc15 pm15 cd15 ct15 : Value}
    {f16 : Addr} {od16 an16 : Option Addr} {sl16 : Array (Option Value)} {oc16 kV16 dc16 pm16 cd16 ct16 : Value}
    {f17 : Addr} {od17 an17 : Option Addr} {sl17 : Array (Option Value)} {oc17 kV17 dc17 pm17 cd17 ct17 : Value}
    {f18 : Addr} {od18 an18 : Option Addr} {sl18 : Array (Option Value)} {oc18 kV18 dc18 pm18 cd18 ct18 : Value}
    {f19 : Addr} {od19 an19 : Option Addr} {sl19 : Array (Option Value)} {oc19 kV19 dc19 pm19 cd19 ct19 : Value}
    {f20 : Addr} {od20 an20 : Option Addr} {sl20 : Array (Option Value)} {oc20 kV20 dc20 pm20 cd20 ct20 : Value}
    {tk_DIGITS : Tok}
    {tk_LETTERS : Tok}
    (X : K.In h) (G : h.Ns mainGlobals mg) (hfa : mg "law" = some (.ref fa))
    (a0 : PySem.W.nsIn K mainGlobals "is_number" = some (some (.ref f0))) (l0 : K.lookup f0 = some ⟨oc0, od0, .func (PySem.W.fnOf "is_number" "is_number" (defArgs s_is_number) (defBody s_is_number) (defScope s_is_number) .none kV0 dc0 pm0 an0 cd0 ct0), sl0⟩) (c0 : PySem.W.codeIn K cd0 "is_number" = true) (k0 : PySem.W.keepIn K (.ref f0) = true)
    (a1 : PySem.W.nsIn K mainGlobals "is_tuple_of" = some (some (.ref f1))) (l1 : K.lookup f1 = some ⟨oc1, od1, .func (PySem.W.fnOf "is_tuple_of" "is_tuple_of" (defArgs s_is_tuple_of) (defBody s_is_tuple_of) (defScope s_is_tuple_of) .none kV1 dc1 pm1 an1 cd1 ct1), sl1⟩) (c1 : PySem.W.codeIn K cd1 "is_tuple_of" = true) (k1 : PySem.W.keepIn K (.ref f1) = true)
    (a2 : PySem.W.nsIn K mainGlobals "is_name" = some (some (.ref f2))) (l2 : K.lookup f2 = some ⟨oc2, od2, .func (PySem.W.fnOf "is_name" "is_name" (defArgs s_is_name) (defBody s_is_name) (defScope s_is_name) .none kV2 dc2 pm2 an2 cd2 ct2), sl2⟩) (c2 : PySem.W.codeIn K cd2 "is_name" = true) (k2 : PySem.W.keepIn K (.ref f2) = true)
    (a3 : PySem.W.nsIn K mainGlobals "is_entry" = some (some (.ref f3))) (l3 : K.lookup f3 = some ⟨oc3, od3, .func (PySem.W.fnOf "is_entry" "is_entry" (defArgs s_is_entry) (defBody s_is_entry) (defScope s_is_entry) .none kV3 dc3 pm3 an3 cd3 ct3), sl3⟩) (c3 : PySem.W.codeIn K cd3 "is_entry" = true) (k3 : PySem.W.keepIn K (.ref f3) = true)
    (a4 : PySem.W.nsIn K mainGlobals "are_entries" = some (some (.ref f4))) (l4 : K.lookup f4 = some ⟨oc4, od4, .func (PySem.W.fnOf "are_entries" "are_entries" (defArgs s_are_entries) (defBody s_are_entries) (defScope s_are_entries) .none kV4 dc4 pm4 an4 cd4 ct4), sl4⟩) (c4 : PySem.W.codeIn K cd4 "are_entries" = true) (k4 : PySem.W.keepIn K (.ref f4) = true)
    (a5 : PySem.W.nsIn K mainGlobals "has_day" = some (some (.ref f5))) (l5 : K.lookup f5 = some ⟨oc5, od5, .func (PySem.W.fnOf "has_day" "has_day" (defArgs s_has_day) (defBody s_has_day) (defScope s_has_day) .none kV5 dc5 pm5 an5 cd5 ct5), sl5⟩) (c5 : PySem.W.codeIn K cd5 "has_day" = true) (k5 : PySem.W.keepIn K (.ref f5) = true)
    (a6 : PySem.W.nsIn K mainGlobals "held" = some (some (.ref f6))) (l6 : K.lookup f6 = some ⟨oc6, od6, .func (PySem.W.fnOf "held" "held" (defArgs s_held) (defBody s_held) (defScope s_held) .none kV6 dc6 pm6 an6 cd6 ct6), sl6⟩) (c6 : PySem.W.codeIn K cd6 "held" = true) (k6 : PySem.W.keepIn K (.ref f6) = true)
    (a7 : PySem.W.nsIn K mainGlobals "cuts_of" = some (some (.ref f7))) (l7 : K.lookup f7 = some ⟨oc7, od7, .func (PySem.W.fnOf "cuts_of" "cuts_of" (defArgs s_cuts_of) (defBody s_cuts_of) (defScope s_cuts_of) .none kV7 dc7 pm7 an7 cd7 ct7), sl7⟩) (c7 : PySem.W.codeIn K cd7 "cuts_of" = true) (k7 : PySem.W.keepIn K (.ref f7) = true)
    (a8 : PySem.W.nsIn K mainGlobals "row_as_known" = some (some (.ref f8))) (l8 : K.lookup f8 = some ⟨oc8, od8, .func (PySem.W.fnOf "row_as_known" "row_as_known" (defArgs s_row_as_known) (defBody s_row_as_known) (defScope s_row_as_known) .none kV8 dc8 pm8 an8 cd8 ct8), sl8⟩) (c8 : PySem.W.codeIn K cd8 "row_as_known" = true) (k8 : PySem.W.keepIn K (.ref f8) = true)
    (a9 : PySem.W.nsIn K mainGlobals "changed_back" = some (some (.ref f9))) (l9 : K.lookup f9 = some ⟨oc9, od9, .func (PySem.W.fnOf "changed_back" "changed_back" (defArgs s_changed_back) (defBody s_changed_back) (defScope s_changed_back) .none kV9 dc9 pm9 an9 cd9 ct9), sl9⟩) (c9 : PySem.W.codeIn K cd9 "changed_back" = true) (k9 : PySem.W.keepIn K (.ref f9) = true)
    (a10 : PySem.W.nsIn K mainGlobals "same_now" = some (some (.ref f10))) (l10 : K.lookup f10 = some ⟨oc10, od10, .func (PySem.W.fnOf "same_now" "same_now" (defArgs s_same_now) (defBody s_same_now) (defScope s_same_now) .none kV10 dc10 pm10 an10 cd10 ct10), sl10⟩) (c10 : PySem.W.codeIn K cd10 "same_now" = true) (k10 : PySem.W.keepIn K (.ref f10) = true)
    (a11 : PySem.W.nsIn K mainGlobals "least_entries" = some (some (.ref f11))) (l11 : K.lookup f11 = some ⟨oc11, od11, .func (PySem.W.fnOf "least_entries" "least_entries" (defArgs s_least_entries) (defBody s_least_entries) (defScope s_least_entries) .none kV11 dc11 pm11 an11 cd11 ct11), sl11⟩) (c11 : PySem.W.codeIn K cd11 "least_entries" = true) (k11 : PySem.W.keepIn K (.ref f11) = true)
    (a12 : PySem.W.nsIn K mainGlobals "_law_draws" = some (some (.ref f12))) (l12 : K.lookup f12 = some ⟨oc12, od12, .func (PySem.W.fnOf "_law_draws" "_law_draws" (defArgs s_law_draws) (defBody s_law_draws) (defScope s_law_draws) .none kV12 dc12 pm12 an12 cd12 ct12), sl12⟩) (c12 : PySem.W.codeIn K cd12 "_law_draws" = true) (k12 : PySem.W.keepIn K (.ref f12) = true)
    (a13 : PySem.W.nsIn K mainGlobals "_law_next" = some (some (.ref f13))) (l13 : K.lookup f13 = some ⟨oc13, od13, .func (PySem.W.fnOf "_law_next" "_law_next" (defArgs s_law_next) (defBody s_law_next) (defScope s_law_next) .none kV13 dc13 pm13 an13 cd13 ct13), sl13⟩) (c13 : PySem.W.codeIn K cd13 "_law_next" = true) (k13 : PySem.W.keepIn K (.ref f13) = true)
    (a14 : PySem.W.nsIn K mainGlobals "_law_pick" = some (some (.ref f14))) (l14 : K.lookup f14 = some ⟨oc14, od14, .func (PySem.W.fnOf "_law_pick" "_law_pick" (defArgs s_law_pick) (defBody s_law_pick) (defScope s_law_pick) .none kV14 dc14 pm14 an14 cd14 ct14), sl14⟩) (c14 : PySem.W.codeIn K cd14 "_law_pick" = true) (k14 : PySem.W.keepIn K (.ref f14) = true)
    (a15 : PySem.W.nsIn K mainGlobals "_law_alike" = some (some (.ref f15))) (l15 : K.lookup f15 = some ⟨oc15, od15, .func (PySem.W.fnOf "_law_alike" "_law_alike" (defArgs s_law_alike) (defBody s_law_alike) (defScope s_law_alike) .none kV15 dc15 pm15 an15 cd15 ct15), sl15⟩) (c15 : PySem.W.codeIn K cd15 "_law_alike" = true) (k15 : PySem.W.keepIn K (.ref f15) = true)
    (a16 : PySem.W.nsIn K mainGlobals "_law_entries" = some (some (.ref f16))) (l16 : K.lookup f16 = some ⟨oc16, od16, .func (PySem.W.fnOf "_law_entries" "_law_entries" (defArgs s_law_entries) (defBody s_law_entries) (defScope s_law_entries) .none kV16 dc16 pm16 an16 cd16 ct16), sl16⟩) (c16 : PySem.W.codeIn K cd16 "_law_entries" = true) (k16 : PySem.W.keepIn K (.ref f16) = true)
    (a17 : PySem.W.nsIn K mainGlobals "_law_held" = some (some (.ref f17))) (l17 : K.lookup f17 = some ⟨oc17, od17, .func (PySem.W.fnOf "_law_held" "_law_held" (defArgs s_law_held) (defBody s_law_held) (defScope s_law_held) .none kV17 dc17 pm17 an17 cd17 ct17), sl17⟩) (c17 : PySem.W.codeIn K cd17 "_law_held" = true) (k17 : PySem.W.keepIn K (.ref f17) = true)
    (a18 : PySem.W.nsIn K mainGlobals "_law_row" = some (some (.ref f18))) (l18 : K.lookup f18 = some ⟨oc18, od18, .func (PySem.W.fnOf "_law_row" "_law_row" (defArgs s_law_row) (defBody s_law_row) (defScope s_law_row) .none kV18 dc18 pm18 an18 cd18 ct18), sl18⟩) (c18 : PySem.W.codeIn K cd18 "_law_row" = true) (k18 : PySem.W.keepIn K (.ref f18) = true)
    (a19 : PySem.W.nsIn K mainGlobals "_law_are" = some (some (.ref f19))) (l19 : K.lookup f19 = some ⟨oc19, od19, .func (PySem.W.fnOf "_law_are" "_law_are" (defArgs s_law_are) (defBody s_law_are) (defScope s_law_are) .none kV19 dc19 pm19 an19 cd19 ct19), sl19⟩) (c19 : PySem.W.codeIn K cd19 "_law_are" = true) (k19 : PySem.W.keepIn K (.ref f19) = true)
    (a20 : PySem.W.nsIn K mainGlobals "law" = some (some (.ref f20))) (l20 : K.lookup f20 = some ⟨oc20, od20, .func (PySem.W.fnOf "law" "law" (defArgs s_law) (defBody s_law) (defScope s_law) .none kV20 dc20 pm20 an20 cd20 ct20), sl20⟩) (c20 : PySem.W.codeIn K cd20 "law" = true) (k20 : PySem.W.keepIn K (.ref f20) = true)
    (z_bool : PySem.W.nsIn K mainGlobals "bool" = some none)
    (z_int : PySem.W.nsIn K mainGlobals "int" = some none)
    (z_isinstance : PySem.W.nsIn K mainGlobals "isinstance" = some none)
    (z_len : PySem.W.nsIn K mainGlobals "len" = some none)
    (z_tuple : PySem.W.nsIn K mainGlobals "tuple" = some none)
    (z_all : PySem.W.nsIn K mainGlobals "all" = some none)
    (z_str : PySem.W.nsIn K mainGlobals "str" = some none)
    (z_range : PySem.W.nsIn K mainGlobals "range" = some none)
    (z_set : PySem.W.nsIn K mainGlobals "set" = some none)
    (z_sorted : PySem.W.nsIn K mainGlobals "sorted" = some none)
    (z_zip : PySem.W.nsIn K mainGlobals "zip" = some none)
    (z_any : PySem.W.nsIn K mainGlobals "any" = some none)
    (z_min : PySem.W.nsIn K mainGlobals "min" = some none)
    (z_max : PySem.W.nsIn K mainGlobals "max" = some none)
    (z_abs : PySem.W.nsIn K mainGlobals "abs" = some none)
    (z_list : PySem.W.nsIn K mainGlobals "list" = some none)
    (g_DIGITS : PySem.W.nsIn K mainGlobals "DIGITS" = some (some (.str "0123456789" tk_DIGITS)))
    (g_LETTERS : PySem.W.nsIn K mainGlobals "LETTERS" = some (some (.str "abcdefghijklmnopqrstuvwxyz" tk_LETTERS))) :
    ∃ fd : FuncData, (∀ (s : Shared) (v : Value), BindsTo s fd ⟨[v], []⟩ [("script", v)]) ∧ ∀ base : Heap, K.In base → base.Ns mainGlobals mg → FnOk l.prog w K mg base CX0 7 fa fd ["script"] (spLaw K) := by
  have e := hfa.symm.trans (PySem.W.mg_of X G a20)
  cases e
  replace z_bool := PySem.W.mg_none_of X G z_bool
  replace z_int := PySem.W.mg_none_of X G z_int
  replace z_isinstance := PySem.W.mg_none_of X G z_isinstance
  replace z_len := PySem.W.mg_none_of X G z_len
  replace z_tuple := PySem.W.mg_none_of X G z_tuple
  replace z_all := PySem.W.mg_none_of X G z_all
  replace z_str := PySem.W.mg_none_of X G z_str
  replace z_range := PySem.W.mg_none_of X G z_range
  replace z_set := PySem.W.mg_none_of X G z_set
  replace z_sorted := PySem.W.mg_none_of X G z_sorted
  replace z_zip := PySem.W.mg_none_of X G z_zip
  replace z_any := PySem.W.mg_none_of X G z_any
  replace z_min := PySem.W.mg_none_of X G z_min
  replace z_max := PySem.W.mg_none_of X G z_max
  replace z_abs := PySem.W.mg_none_of X G z_abs
  replace z_list := PySem.W.mg_none_of X G z_list
  have g_DIGITS : ∃ t, mg "DIGITS" = some (.str "0123456789" t) := ⟨_, PySem.W.mg_of X G g_DIGITS⟩
  have g_LETTERS : ∃ t, mg "LETTERS" = some (.str "abcdefghijklmnopqrstuvwxyz" t) := ⟨_, PySem.W.mg_of X G g_LETTERS⟩
  have F0 := fun_mk (st := s_is_number) l0 c0 k0
  have F1 := fun_mk (st := s_is_tuple_of) l1 c1 k1
  have F2 := fun_mk (st := s_is_name) l2 c2 k2
  have F3 := fun_mk (st := s_is_entry) l3 c3 k3
  have F4 := fun_mk (st := s_are_entries) l4 c4 k4
  have F5 := fun_mk (st := s_has_day) l5 c5 k5
  have F6 := fun_mk (st := s_held) l6 c6 k6
  have F7 := fun_mk (st := s_cuts_of) l7 c7 k7
  have F8 := fun_mk (st := s_row_as_known) l8 c8 k8
  have F9 := fun_mk (st := s_changed_back) l9 c9 k9
  have F10 := fun_mk (st := s_same_now) l10 c10 k10
  have F11 := fun_mk (st := s_least_entries) l11 c11 k11
  have F12 := fun_mk (st := s_law_draws) l12 c12 k12
  have F13 := fun_mk (st := s_law_next) l13 c13 k13
  have F14 := fun_mk (st := s_law_pick) l14 c14 k14
  have F15 := fun_mk (st := s_law_alike) l15 c15 k15
  have F16 := fun_mk (st := s_law_entries) l16 c16 k16
  have F17 := fun_mk (st := s_law_held) l17 c17 k17
  have F18 := fun_mk (st := s_law_row) l18 c18 k18
  have F19 := fun_mk (st := s_law_are) l19 c19 k19
  have F20 := fun_mk (st := s_law) l20 c20 k20
  refine ⟨PySem.W.fnOf "law" "law" (defArgs s_law) (defBody s_law) (defScope s_law) .none kV20 dc20 pm20 an20 cd20 ct20, fun s v => .of_eq rfl, fun base _ _ => ?_⟩
  have b0 := F0.binds (ps := ["thing"]) fun _ _ _ _ _ _ us hl => match us, hl with | [_], _ => rfl
  have kk_is_number := fun W : Option Wd => k_is_number (P := l.prog) (w := w) (base := base) (W := W) z_bool z_int z_isinstance F0 (PySem.W.mg_of X G a0) b0
  have b1 := F1.binds (ps := ["thing", "many"]) fun _ _ _ _ _ _ us hl => match us, hl with | [_, _], _ => rfl
  have kk_is_tuple_of := fun W : Option Wd => k_is_tuple_of (P := l.prog) (w := w) (base := base) (W := W) z_isinstance z_len z_tuple F1 (PySem.W.mg_of X G a1) b1
  have b2 := F2.binds (ps := ["thing"]) fun _ _ _ _ _ _ us hl => match us, hl with | [_], _ => rfl
  have kk_is_name := fun W : Option Wd => k_is_name (P := l.prog) (w := w) (base := base) (W := W) z_all z_isinstance z_str g_DIGITS g_LETTERS F2 (PySem.W.mg_of X G a2) b2
  have b3 := F3.binds (ps := ["thing"]) fun _ _ _ _ _ _ us hl => match us, hl with | [_], _ => rfl
  have kk_is_entry := fun W : Option Wd => k_is_entry (P := l.prog) (w := w) (base := base) (W := W) (kk_is_number W) (kk_is_tuple_of W) (kk_is_name W) F3 (PySem.W.mg_of X G a3) b3
  have b4 := F4.binds (ps := ["thing"]) fun _ _ _ _ _ _ us hl => match us, hl with | [_], _ => rfl
  have kk_are_entries := fun W : Option Wd => k_are_entries (P := l.prog) (w := w) (base := base) (W := W) (kk_is_entry W) z_all z_isinstance z_len z_range z_tuple F4 (PySem.W.mg_of X G a4) b4
  have b5 := F5.binds (ps := ["entry", "day"]) fun _ _ _ _ _ _ us hl => match us, hl with | [_, _], _ => rfl
  have kk_has_day := fun W : Option Wd => k_has_day (P := l.prog) (w := w) (base := base) (W := W)  F5 (PySem.W.mg_of X G a5) b5
  have b6 := F6.binds (ps := ["entries", "day", "known"]) fun _ _ _ _ _ _ us hl => match us, hl with | [_, _, _], _ => rfl
  have kk_held := fun W : Option Wd => k_held (P := l.prog) (w := w) (base := base) (W := W) (kk_has_day W) F6 (PySem.W.mg_of X G a6) b6
  have b7 := F7.binds (ps := ["entries", "known"]) fun _ _ _ _ _ _ us hl => match us, hl with | [_, _], _ => rfl
  have kk_cuts_of := fun W : Option Wd => k_cuts_of (P := l.prog) (w := w) (base := base) (W := W) z_set z_sorted F7 (PySem.W.mg_of X G a7) b7
  have b8 := F8.binds (ps := ["entries", "known"]) fun _ _ _ _ _ _ us hl => match us, hl with | [_, _], _ => rfl
  have kk_row_as_known := fun W : Option Wd => k_row_as_known (P := l.prog) (w := w) (base := base) (W := W) (kk_held W) (kk_cuts_of W) z_tuple z_zip F8 (PySem.W.mg_of X G a8) b8
  have b9 := F9.binds (ps := ["entries"]) fun _ _ _ _ _ _ us hl => match us, hl with | [_], _ => rfl
  have kk_changed_back := fun W : Option Wd => k_changed_back (P := l.prog) (w := w) (base := base) (W := W) (kk_held W) (kk_cuts_of W) z_any z_len z_min z_range z_set z_sorted z_tuple F9 (PySem.W.mg_of X G a9) b9
  have b10 := F10.binds (ps := ["one", "other"]) fun _ _ _ _ _ _ us hl => match us, hl with | [_, _], _ => rfl
  have kk_same_now := fun W : Option Wd => k_same_now (P := l.prog) (w := w) (base := base) (W := W) (kk_row_as_known W) z_max F10 (PySem.W.mg_of X G a10) b10
  have b11 := F11.binds (ps := ["row", "known"]) fun _ _ _ _ _ _ us hl => match us, hl with | [_, _], _ => rfl
  have kk_least_entries := fun W : Option Wd => k_least_entries (P := l.prog) (w := w) (base := base) (W := W) z_tuple F11 (PySem.W.mg_of X G a11) b11
  have b12 := F12.binds (ps := ["script", "many"]) fun _ _ _ _ _ _ us hl => match us, hl with | [_, _], _ => rfl
  have kk_law_draws := fun W : Option Wd => k_law_draws (P := l.prog) (w := w) (base := base) (W := W) z_abs z_int z_len z_range F12 (PySem.W.mg_of X G a12) b12
  have b13 := F13.binds (ps := ["w", "many"]) fun _ _ _ _ _ _ us hl => match us, hl with | [_, _], _ => rfl
  have kk_law_next := fun W0 : Wd => k_law_next (P := l.prog) (w := w) (base := base) (W0 := W0) z_int z_len F13 (PySem.W.mg_of X G a13) b13
  have b14 := F14.binds (ps := ["w", "rows"]) fun _ _ _ _ _ _ us hl => match us, hl with | [_, _], _ => rfl
  have kk_law_pick := fun W0 : Wd => k_law_pick (P := l.prog) (w := w) (base := base) (W0 := W0) (kk_law_next W0) z_len F14 (PySem.W.mg_of X G a14) b14
  have b15 := F15.binds (ps := ["given", "due"]) fun _ _ _ _ _ _ us hl => match us, hl with | [_, _], _ => rfl
  have kk_law_alike := fun W : Option Wd => k_law_alike (P := l.prog) (w := w) (base := base) (W := W) z_bool z_int z_isinstance z_len z_range z_str z_tuple F15 (PySem.W.mg_of X G a15) b15
  have b16 := F16.binds (ps := ["w"]) fun _ _ _ _ _ _ us hl => match us, hl with | [_], _ => rfl
  have kk_law_entries := fun W0 : Wd => k_law_entries (P := l.prog) (w := w) (base := base) (W0 := W0) (kk_law_next W0) (kk_law_pick W0) z_range z_tuple F16 (PySem.W.mg_of X G a16) b16
  have b17 := F17.binds (ps := ["entries", "day", "known"]) fun _ _ _ _ _ _ us hl => match us, hl with | [_, _, _], _ => rfl
  have kk_law_held := fun W : Option Wd => k_law_held (P := l.prog) (w := w) (base := base) (W := W) z_len F17 (PySem.W.mg_of X G a17) b17
  have b18 := F18.binds (ps := ["entries", "known"]) fun _ _ _ _ _ _ us hl => match us, hl with | [_, _], _ => rfl
  have kk_law_row := fun W : Option Wd => k_law_row (P := l.prog) (w := w) (base := base) (W := W) (kk_law_held W) z_len z_range z_tuple F18 (PySem.W.mg_of X G a18) b18
  have b19 := F19.binds (ps := ["thing"]) fun _ _ _ _ _ _ us hl => match us, hl with | [_], _ => rfl
  have kk_law_are := fun W : Option Wd => k_law_are (P := l.prog) (w := w) (base := base) (W := W) z_bool z_int z_isinstance z_len z_range z_tuple F19 (PySem.W.mg_of X G a19) b19
  exact ok_law kk_are_entries kk_held kk_row_as_known kk_changed_back kk_same_now kk_least_entries kk_law_draws kk_law_next kk_law_pick kk_law_alike kk_law_entries kk_law_held kk_law_row kk_law_are z_len z_list z_min z_range z_sorted z_tuple F20 maths
end K28
open PySem PySem.W PyProof.Rows
theorem PySem.Challenge.cw_amendwarrant_k28_what_held_and_what_was_holds : PySem.Challenge.rw_amendwarrant_k28_what_held_and_what_was.Holds := by
  w_on; o_law; k_head; (case hw => w_witness2)
  k_fill
  refine L2.walk_of (l := PySem.Challenge.rw_amendwarrant_k28_what_held_and_what_was) (n := 63) (k := 7) (x := "script") (CX := fun _ => L2.CX0) (sp := fun w => L3.spLaw _) rfl (by decide) rfl ⟨rfl, by decide, by decide⟩ (fun w h Y => PySem.W.kIn_of Y) ?F (fun _ _ a ns hl _ hS => ⟨a, ns, rfl, hS, hl, fun _ => rfl⟩) (fun _ _ _ _ _ h => h)
  case F =>
    intro w mg fa h KX G hmg
    refine' K28.all_mk KX G hmg ?a0 ?l0 ?c0 ?k0 ?a1 ?l1 ?c1 ?k1 ?a2 ?l2 ?c2 ?k2 ?a3 ?l3 ?c3 ?k3 ?a4 ?l4 ?c4 ?k4 ?a5 ?l5 ?c5 ?k5 ?a6 ?l6 ?c6 ?k6 ?a7 ?l7 ?c7 ?k7 ?a8 ?l8 ?c8 ?k8 ?a9 ?l9 ?c9 ?k9 ?a10 ?l10 ?c10 ?k10 ?a11 ?l11 ?c11 ?k11 ?a12 ?l12 ?c12 ?k12 ?a13 ?l13 ?c13 ?k13 ?a14 ?l14 ?c14 ?k14 ?a15 ?l15 ?c15 ?k15 ?a16 ?l16 ?c16 ?k16 ?a17 ?l17 ?c17 ?k17 ?a18 ?l18 ?c18 ?k18 ?a19 ?l19 ?c19 ?k19 ?a20 ?l20 ?c20 ?k20 ?z_bool ?z_int ?z_isinstance ?z_len ?z_tuple ?z_all ?z_str ?z_range ?z_set ?z_sorted ?z_zip ?z_any ?z_min ?z_max ?z_abs ?z_list ?g_DIGITS ?g_LETTERS
    (case a0 => k_is); (case l0 => k_is); (case c0 => k_is); (case k0 => k_is); (case a1 => k_is); (case l1 => k_is); (case c1 => k_is); (case k1 => k_is); (case a2 => k_is); (case l2 => k_is); (case c2 => k_is); (case k2 => k_is); (case a3 => k_is); (case l3 => k_is); (case c3 => k_is); (case k3 => k_is); (case a4 => k_is); (case l4 => k_is); (case c4 => k_is); (case k4 => k_is); (case a5 => k_is); (case l5 => k_is); (case c5 => k_is); (case k5 => k_is); (case a6 => k_is); (case l6 => k_is); (case c6 => k_is); (case k6 => k_is); (case a7 => k_is); (case l7 => k_is); (case c7 => k_is); (case k7 => k_is); (case a8 => k_is); (case l8 => k_is); (case c8 => k_is); (case k8 => k_is); (case a9 => k_is); (case l9 => k_is); (case c9 => k_is); (case k9 => k_is); (case a10 => k_is); (case l10 => k_is); (case c10 => k_is); (case k10 => k_is); (case a11 => k_is); (case l11 => k_is); (case c11 => k_is); (case k11 => k_is); (case a12 => k_is); (case l12 => k_is); (case c12 => k_is); (case k12 => k_is); (case a13 => k_is); (case l13 => k_is); (case c13 => k_is); (case k13 => k_is); (case a14 => k_is); (case l14 => k_is); (case c14 => k_is); (case k14 => k_is); (case a15 => k_is); (case l15 => k_is); (case c15 => k_is); (case k15 => k_is); (case a16 => k_is); (case l16 => k_is); (case c16 => k_is); (case k16 => k_is); (case a17 => k_is); (case l17 => k_is); (case c17 => k_is); (case k17 => k_is); (case a18 => k_is); (case l18 => k_is); (case c18 => k_is); (case k18 => k_is); (case a19 => k_is); (case l19 => k_is); (case c19 => k_is); (case k19 => k_is); (case a20 => k_is); (case l20 => k_is); (case c20 => k_is); (case k20 => k_is); (case z_bool => k_is); (case z_int => k_is); (case z_isinstance => k_is); (case z_len => k_is); (case z_tuple => k_is); (case z_all => k_is); (case z_str => k_is); (case z_range => k_is); (case z_set => k_is); (case z_sorted => k_is); (case z_zip => k_is); (case z_any => k_is); (case z_min => k_is); (case z_max => k_is); (case z_abs => k_is); (case z_list => k_is); (case g_DIGITS => k_is); (case g_LETTERS => k_is)
