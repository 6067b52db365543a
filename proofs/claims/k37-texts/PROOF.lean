import PyProof.Rows.All
import HandS.ForMost
import HandS.ForExc
import HandS.TupAny
import HandS.TupLe
import HandS.Flow
import HandS.IsInst
import HandS.Property
import HandS.Wide
import HandS.SortInts
import HandS.Deep
import HandS.Style
import HandS.TryOnly
import HandS.Walk
import HandS.ClsMeth
import HandS.OwnEq
import HandS.Steps
import PyProof.Rows.MatchSeqLen
import HandS.WordsExc
import HandS.Ends
import HandS.ForDict
import HandS.Text
import PySem.Challenge.RW_beanjars_k37_texts
set_option Elab.async false
set_option linter.all false
set_option maxRecDepth 100000
/-! The mirror layer, part A: pure data, a store of cells, mirrors (state and exceptions), how they lie in the abstract heap. -/
namespace Bj
open PySem L2

/-- pure data: nothing that it holds is ever changed -/
inductive Py where
  | non | bl (b : Bool) | int (i : Int) | str (s : Str)
  | tup (l : List Py) | lst (l : List Py) | obj (c : Nat) (fs : List (Str × Py))

/-- a value: pure data, or the cell n of the store -/
inductive Wv where | d (x : Py) | r (n : Nat)
/-- what may be changed in place -/
inductive Cell where | lst (l : List Wv) | obj (c : Nat) (fs : List (Str × Wv)) | dead
abbrev Store := List Cell
/-- an exception of the class c, with its fields -/
structure Xn where
  c : Nat
  fs : List (Str × Py)
inductive R (α : Type) where
  | ok (a : α) (st : Store) | ex (x : Xn) (st : Store) | bad
abbrev M (α : Type) := Store → R α
def ret {α : Type} (a : α) : M α := fun st => .ok a st
def bad {α : Type} : M α := fun _ => .bad
def bnd {α β : Type} (m : M α) (f : α → M β) : M β := fun st => match m st with
  | .ok a st' => f a st'
  | .ex x st' => .ex x st'
  | .bad => .bad
theorem bnd_ok {α β : Type} {m : M α} {f : α → M β} {st st' : Store} {a : α} (h : m st = .ok a st') : bnd m f st = f a st' := by unfold bnd; rw [h]
theorem bnd_ex {α β : Type} {m : M α} {f : α → M β} {st st' : Store} {x : Xn} (h : m st = .ex x st') : bnd m f st = .ex x st' := by unfold bnd; rw [h]
@[simp] theorem bnd_ret {α β : Type} {f : α → M β} {a : α} : bnd (ret a) f = f a := rfl
@[simp] theorem bnd_bad {α β : Type} {f : α → M β} : bnd bad f = bad := rfl
@[simp] theorem ret_ap {α : Type} {a : α} {st : Store} : ret a st = .ok a st := rfl
theorem bnd_assoc {α β γ : Type} {m : M α} {f : α → M β} {g : β → M γ} : bnd (bnd m f) g = bnd m fun a => bnd (f a) g := by
  funext st
  unfold bnd
  cases m st <;> rfl

/-! ### how data lie in the heap -/
/-- the addresses of the classes -/
structure Gam where
  cls : Nat → Addr
/-- what is frozen, where the cells lie -/
structure Gh where
  S : Addr → Prop
  π : List Addr

mutual
inductive Rep (Γ : Gam) (S : Addr → Prop) (H : Hp) : Py → V → Prop
  | non : Rep Γ S H .non .non
  | bl (b : Bool) : Rep Γ S H (.bl b) (.bl b)
  | int (i : Int) : Rep Γ S H (.int i) (.int i)
  | str (s : Str) : Rep Γ S H (.str s) (.str s)
  | tup {a : Addr} {xs : List V} {ds : List Py} : S a → H a = some (.tup xs) → RepL Γ S H ds xs → Rep Γ S H (.tup ds) (.ref a)
  | lst {a : Addr} {xs : List V} {ds : List Py} : S a → Rd H a (.lst xs) → RepL Γ S H ds xs → Rep Γ S H (.lst ds) (.ref a)
  | obj {a dx : Addr} {c : Nat} {fs : List (Str × Py)} {gs : List (Str × V)} : S a → H a = some (.ins (Γ.cls c) dx gs) → RepF Γ S H fs gs → Rep Γ S H (.obj c fs) (.ref a)
inductive RepL (Γ : Gam) (S : Addr → Prop) (H : Hp) : List Py → List V → Prop
  | nil : RepL Γ S H [] []
  | cons {d : Py} {v : V} {ds : List Py} {vs : List V} : Rep Γ S H d v → RepL Γ S H ds vs → RepL Γ S H (d :: ds) (v :: vs)
inductive RepF (Γ : Gam) (S : Addr → Prop) (H : Hp) : List (Str × Py) → List (Str × V) → Prop
  | nil : RepF Γ S H [] []
  | cons {f : Str} {d : Py} {v : V} {ds : List (Str × Py)} {vs : List (Str × V)} : Rep Γ S H d v → RepF Γ S H ds vs → RepF Γ S H ((f, d) :: ds) ((f, v) :: vs)
end
section
variable {Γ : Gam} {S S' : Addr → Prop} {H H' : Hp}
mutual
theorem Rep.mono (hS : ∀ a, S a → S' a) (hH : ∀ a o, S a → H a = some o → H' a = some o) : ∀ {d : Py} {v : V}, Rep Γ S H d v → Rep Γ S' H' d v
  | _, _, .non => .non
  | _, _, .bl b => .bl b
  | _, _, .int i => .int i
  | _, _, .str s => .str s
  | _, _, .tup s h r => .tup (hS _ s) (hH _ _ s h) (RepL.mono hS hH r)
  | _, _, .lst s h r => .lst (hS _ s) (h.elim (fun h => .inl (hH _ _ s h)) fun ⟨o, h⟩ => .inr ⟨o, hH _ _ s h⟩) (RepL.mono hS hH r)
  | _, _, .obj s h r => .obj (hS _ s) (hH _ _ s h) (RepF.mono hS hH r)
theorem RepL.mono (hS : ∀ a, S a → S' a) (hH : ∀ a o, S a → H a = some o → H' a = some o) : ∀ {d : List Py} {v : List V}, RepL Γ S H d v → RepL Γ S' H' d v
  | _, _, .nil => .nil
  | _, _, .cons r t => .cons (Rep.mono hS hH r) (RepL.mono hS hH t)
theorem RepF.mono (hS : ∀ a, S a → S' a) (hH : ∀ a o, S a → H a = some o → H' a = some o) : ∀ {d : List (Str × Py)} {v : List (Str × V)}, RepF Γ S H d v → RepF Γ S' H' d v
  | _, _, .nil => .nil
  | _, _, .cons r t => .cons (Rep.mono hS hH r) (RepF.mono hS hH t)
end
theorem RepL.length : ∀ {d : List Py} {v : List V}, RepL Γ S H d v → d.length = v.length
  | _, _, .nil => rfl
  | _, _, .cons _ t => congrArg (· + 1) t.length
theorem RepL.get : ∀ {ds : List Py} {vs : List V} {i : Nat} {d : Py}, RepL Γ S H ds vs → ds[i]? = some d → ∃ v, vs[i]? = some v ∧ Rep Γ S H d v
  | _, _, _, _, .nil, e => by simp at e
  | _, _, 0, _, .cons r _, e => ⟨_, rfl, by simp at e; subst e; exact r⟩
  | _, _, i + 1, _, .cons _ t, e => by
    obtain ⟨v, h1, h2⟩ := RepL.get (i := i) t (by simpa using e)
    exact ⟨v, by simpa using h1, h2⟩
theorem RepL.at : ∀ {ds : List Py} {vs : List V} {i : Nat} {v : V}, RepL Γ S H ds vs → vs[i]? = some v → ∃ d, ds[i]? = some d ∧ Rep Γ S H d v
  | _, _, _, _, .nil, e => by simp at e
  | _, _, 0, _, .cons r _, e => ⟨_, rfl, by simp at e; subst e; exact r⟩
  | _, _, i + 1, _, .cons _ t, e => by
    obtain ⟨v, h1, h2⟩ := RepL.at (i := i) t (by simpa using e)
    exact ⟨v, by simpa using h1, h2⟩
theorem RepL.append : ∀ {ds es : List Py} {vs us : List V}, RepL Γ S H ds vs → RepL Γ S H es us → RepL Γ S H (ds ++ es) (vs ++ us)
  | _, _, _, _, .nil, t => t
  | _, _, _, _, .cons r s, t => .cons r (RepL.append s t)
theorem RepL.take : ∀ {ds : List Py} {vs : List V} (n : Nat), RepL Γ S H ds vs → RepL Γ S H (ds.take n) (vs.take n)
  | _, _, 0, _ => .nil
  | _, _, _ + 1, .nil => .nil
  | _, _, n + 1, .cons r t => .cons r (RepL.take n t)
theorem RepL.drop : ∀ {ds : List Py} {vs : List V} (n : Nat), RepL Γ S H ds vs → RepL Γ S H (ds.drop n) (vs.drop n)
  | _, _, 0, r => r
  | _, _, _ + 1, .nil => .nil
  | _, _, n + 1, .cons r t => RepL.drop n t
theorem RepL.reverse {ds : List Py} {vs : List V} (h : RepL Γ S H ds vs) : RepL Γ S H ds.reverse vs.reverse := by
  have go : ∀ {ds : List Py} {vs : List V}, RepL Γ S H ds vs → RepL Γ S H ds.reverse vs.reverse := by
    intro ds
    induction ds with
    | nil => intro vs h; cases h; exact .nil
    | cons d ds ih =>
      intro vs h
      cases h with
      | cons r t => rw [List.reverse_cons, List.reverse_cons]; exact (ih t).append (.cons r .nil)
  exact go h
theorem RepL.rep {ds : List Py} {vs : List V} (h : RepL Γ S H ds vs) : ∀ k : Nat, RepL Γ S H (List.replicate k ds).flatten (List.replicate k vs).flatten
  | 0 => .nil
  | k + 1 => by
    rw [List.replicate_succ, List.replicate_succ, List.flatten_cons, List.flatten_cons]
    exact h.append (RepL.rep h k)
theorem RepF.look {f : Str} : ∀ {ds : List (Str × Py)} {vs : List (Str × V)} {d : Py}, RepF Γ S H ds vs → ds.lookup f = some d → ∃ v, vs.lookup f = some v ∧ Rep Γ S H d v
  | _, _, _, .nil, e => by cases e
  | _, _, d, .cons (f := g) r t, e => by
    rw [List.lookup_cons] at e ⊢
    cases hb : f == g with
    | true => rw [hb] at e; cases e; exact ⟨_, rfl, r⟩
    | false => rw [hb] at e; exact RepF.look t e
theorem RepF.none {f : Str} : ∀ {ds : List (Str × Py)} {vs : List (Str × V)}, RepF Γ S H ds vs → ds.lookup f = none → vs.lookup f = none
  | _, _, .nil, _ => rfl
  | _, _, .cons (f := g) r t, e => by
    rw [List.lookup_cons] at e ⊢
    cases hb : f == g with
    | true => rw [hb] at e; cases e
    | false => rw [hb] at e; exact RepF.none t e
theorem RepF.length : ∀ {d : List (Str × Py)} {v : List (Str × V)}, RepF Γ S H d v → d.length = v.length
  | _, _, .nil => rfl
  | _, _, .cons _ t => congrArg (· + 1) t.length
end

/-- a value of the mirror and a value of the heap -/
def RepW (Γ : Gam) (G : Gh) (H : Hp) : Wv → V → Prop
  | .d x, v => Rep Γ G.S H x v
  | .r n, v => ∃ a, G.π[n]? = some a ∧ v = .ref a
abbrev RepWL (Γ : Gam) (G : Gh) (H : Hp) : List Wv → List V → Prop := Paired (RepW Γ G H)
abbrev RepWF (Γ : Gam) (G : Gh) (H : Hp) : List (Str × Wv) → List (Str × V) → Prop := Paired fun p q => p.1 = q.1 ∧ RepW Γ G H p.2 q.2
def CellOk (Γ : Gam) (G : Gh) (H : Hp) (a : Addr) : Cell → Prop
  | .lst ws => ¬ G.S a ∧ ∃ xs, H a = some (.lst xs) ∧ RepWL Γ G H ws xs
  | .obj c fs => ¬ G.S a ∧ ∃ dx gs, H a = some (.ins (Γ.cls c) dx gs) ∧ RepWF Γ G H fs gs
  | .dead => True
structure GOk (Γ : Gam) (G : Gh) (H : Hp) (st : Store) : Prop where
  len : G.π.length = st.length
  nd : G.π.Nodup
  tr : ∀ a, G.S a ∨ a ∈ G.π → H a ≠ none
  cells : ∀ (n : Nat) (a : Addr) (c : Cell), G.π[n]? = some a → st[n]? = some c → CellOk Γ G H a c
/-- from one state to a later one -/
structure Step (G : Gh) (H : Hp) (G' : Gh) (H' : Hp) : Prop where
  pre : ∃ t, G'.π = G.π ++ t
  sub : ∀ a, G.S a → G'.S a
  frm : ∀ a o, H a = some o → (a ∈ G.π → G.S a) → H' a = some o
  new : ∀ a, G'.S a ∨ a ∈ G'.π → G.S a ∨ a ∈ G.π ∨ H a = none
section
variable {Γ : Gam} {G G' G'' : Gh} {H H' H'' : Hp} {st st' : Store} {w : Wv} {v : V}
theorem Step.refl : Step G H G H := ⟨⟨[], by simp⟩, fun _ h => h, fun _ _ h _ => h, fun _ h => h.elim .inl fun h => .inr (.inl h)⟩
theorem Step.pi (s : Step G H G' H') {n : Nat} {a : Addr} (h : G.π[n]? = some a) : G'.π[n]? = some a := by
  obtain ⟨t, e⟩ := s.pre
  rw [e, List.getElem?_append_left (List.getElem?_eq_some_iff.mp h).1]
  exact h
theorem Step.mem (s : Step G H G' H') {a : Addr} (h : a ∈ G.π) : a ∈ G'.π := by
  obtain ⟨t, e⟩ := s.pre
  rw [e]
  exact List.mem_append_left _ h
theorem Step.trans (a : Step G H G' H') (b : Step G' H' G'' H'') : Step G H G'' H'' where
  pre := by
    obtain ⟨t, e⟩ := a.pre
    obtain ⟨u, f⟩ := b.pre
    exact ⟨t ++ u, by rw [f, e, List.append_assoc]⟩
  sub := fun x h => b.sub x (a.sub x h)
  frm := fun x o h k => b.frm x o (a.frm x o h k) fun m => (a.new x (.inr m)).elim (a.sub x) fun q => q.elim (fun q => a.sub x (k q)) fun q => by rw [q] at h; cases h
  new := fun x h => by
    rcases b.new x h with q | q | q
    · exact a.new x (.inl q)
    · exact a.new x (.inr q)
    · cases e : H x with
      | none => exact .inr (.inr rfl)
      | some o =>
        by_cases m : x ∈ G.π
        · exact .inr (.inl m)
        · have := a.frm x o e fun z => absurd z m
          rw [q] at this
          cases this
theorem Step.data (s : Step G H G' H') {d : Py} (h : Rep Γ G.S H d v) : Rep Γ G'.S H' d v := h.mono s.sub fun a o sa e => s.frm a o e fun _ => sa
theorem Step.dataL (s : Step G H G' H') {d : List Py} {v : List V} (h : RepL Γ G.S H d v) : RepL Γ G'.S H' d v := h.mono s.sub fun a o sa e => s.frm a o e fun _ => sa
theorem Step.dataF (s : Step G H G' H') {d : List (Str × Py)} {v : List (Str × V)} (h : RepF Γ G.S H d v) : RepF Γ G'.S H' d v := h.mono s.sub fun a o sa e => s.frm a o e fun _ => sa
theorem Step.val (s : Step G H G' H') (h : RepW Γ G H w v) : RepW Γ G' H' w v := by
  cases w with
  | d x => exact s.data h
  | r n =>
    obtain ⟨a, e, q⟩ := h
    exact ⟨a, s.pi e, q⟩
theorem Paired.imp {α β : Type} {F K : α → β → Prop} : ∀ {l₁ : List α} {l₂ : List β}, Paired F l₁ l₂ → (∀ a b, F a b → K a b) → Paired K l₁ l₂
  | _, _, .nil, _ => .nil
  | _, _, .cons r t, f => .cons (f _ _ r) (Paired.imp t f)
theorem Step.vals (s : Step G H G' H') {w : List Wv} {v : List V} (h : RepWL Γ G H w v) : RepWL Γ G' H' w v := Paired.imp h fun _ _ q => s.val q
theorem Step.flds (s : Step G H G' H') {w : List (Str × Wv)} {v : List (Str × V)} (h : RepWF Γ G H w v) : RepWF Γ G' H' w v := Paired.imp h fun _ _ q => ⟨q.1, s.val q.2⟩
theorem RepL.toW {d : List Py} {v : List V} (h : RepL Γ G.S H d v) : RepWL Γ G H (d.map .d) v := by
  induction d generalizing v with
  | nil => cases h; exact .nil
  | cons x xs ih => cases h with | cons r t => exact .cons r (ih t)
theorem RepWL.toL {d : List Py} {v : List V} (h : RepWL Γ G H (d.map .d) v) : RepL Γ G.S H d v := by
  induction d generalizing v with
  | nil => cases h; exact .nil
  | cons x xs ih => cases h with | cons r t => exact .cons r (ih t)
end

/-! ### the slots -/
abbrev Env' := List (Option Wv)
def REnv (Γ : Gam) (G : Gh) (H : Hp) (env : Env') (σ : L2.St) : Prop := env.length = σ.length ∧ ∀ (i : Nat) (w : Wv), env[i]? = some (some w) → ∃ v, σ[i]? = some (some v) ∧ RepW Γ G H w v
section
variable {Γ : Gam} {G G' : Gh} {H H' : Hp} {env : Env'} {σ : L2.St}
theorem REnv.step (r : REnv Γ G H env σ) (s : Step G H G' H') : REnv Γ G' H' env σ := ⟨r.1, fun i w e => let ⟨v, h1, h2⟩ := r.2 i w e; ⟨v, h1, s.val h2⟩⟩
theorem REnv.set (r : REnv Γ G H env σ) {i : Nat} {w : Wv} {v : V} (h : RepW Γ G H w v) : REnv Γ G H (env.set i (some w)) (σ.set i (some v)) := by
  refine ⟨by simp [r.1], fun j u e => ?_⟩
  by_cases hj : i = j
  · subst hj
    have hl : i < env.length := by
      have := (List.getElem?_eq_some_iff.mp e).1
      simpa using this
    rw [List.getElem?_set_self hl] at e
    cases e
    exact ⟨v, List.getElem?_set_self (by rw [← r.1]; exact hl), h⟩
  · rw [List.getElem?_set_ne hj] at e ⊢
    exact r.2 j u e
def wipeE (env : Env') : List Nat → Env'
  | [] => env
  | i :: vs => wipeE (env.set i none) vs
theorem REnv.unset (r : REnv Γ G H env σ) (i : Nat) : REnv Γ G H (env.set i none) (σ.set i none) := by
  refine ⟨by simp [r.1], fun j u e => ?_⟩
  by_cases hj : i = j
  · subst hj
    have hl : i < env.length := by
      have := (List.getElem?_eq_some_iff.mp e).1
      simpa using this
    rw [List.getElem?_set_self hl] at e
    cases e
  · rw [List.getElem?_set_ne hj] at e ⊢
    exact r.2 j u e
end

/-! ### an exception -/
def XRep (Γ : Gam) (G : Gh) (H : Hp) (x : Xn) (c : Value) (dx : Option Addr) : Prop :=
  c = .ref (Γ.cls x.c) ∧ ((x.fs = [] ∧ dx = none) ∨ ∃ a gs, dx = some a ∧ G.S a ∧ H a = some (.xd gs) ∧ RepF Γ G.S H x.fs gs)
/-- what is wanted behind a mirror's run -/
def Post {α : Type} (Γ : Gam) (E : XK) (G : Gh) (H : Hp) (r : R α) (K : α → Store → Gh → Hp → Prop) : Prop := match r with
  | .ok a st => ∀ G' H', Step G H G' H' → GOk Γ G' H' st → K a st G' H'
  | .ex x st => ∀ G' H' c dx, Step G H G' H' → GOk Γ G' H' st → XRep Γ G' H' x c dx → E c dx H'
  | .bad => False
section
variable {α β : Type} {Γ : Gam} {E : XK} {G G' : Gh} {H H' : Hp} {st : Store}
theorem Post.step {r : R α} {K : α → Store → Gh → Hp → Prop} (s : Step G H G' H') (p : Post Γ E G H r K) : Post Γ E G' H' r K := by
  cases r with
  | ok a st => exact fun G2 H2 s2 ok => p G2 H2 (s.trans s2) ok
  | ex x st => exact fun G2 H2 c dx s2 ok => p G2 H2 c dx (s.trans s2) ok
  | bad => exact p
theorem Post.imp {r : R α} {K K' : α → Store → Gh → Hp → Prop} (p : Post Γ E G H r K) (h : ∀ a st G' H', Step G H G' H' → GOk Γ G' H' st → K a st G' H' → K' a st G' H') : Post Γ E G H r K' := by
  cases r with
  | ok a st => exact fun G2 H2 s2 ok => h a st G2 H2 s2 ok (p G2 H2 s2 ok)
  | ex x st => exact p
  | bad => exact p
theorem Post.bnd {m : M α} {f : α → M β} {K : β → Store → Gh → Hp → Prop} (p : Post Γ E G H (bnd m f st) K) : Post Γ E G H (m st) fun a st' G' H' => Post Γ E G' H' (f a st') K := by
  unfold Bj.bnd at p
  cases e : m st with
  | ok a st' => rw [e] at p; exact fun G' H' s ok => Post.step s p
  | ex x st' => rw [e] at p; exact p
  | bad => rw [e] at p; exact p
theorem Post.now {a : α} {K : α → Store → Gh → Hp → Prop} (ok : GOk Γ G H st) (p : Post Γ E G H (.ok a st) K) : K a st G H := p G H .refl ok
end
end Bj

set_option Elab.async false
set_option linter.all false
set_option maxRecDepth 100000
set_option maxHeartbeats 1000000
/-! The mirror layer, part B: expressions. -/
namespace Bj
open PySem PySem.Spec PyProof.Rows L2

/-! ### weakening -/
section
variable {X : Cx}
theorem PEw {e : Expr} {t t' : TE} (h : PE X e t) (w : ∀ σ H Q, t' σ H Q → t σ H Q) : PE X e t' := ⟨fun pins s σ H Q I q => h.run pins s σ H Q I (w σ H Q q)⟩
theorem PTw' {e : Expr} {t t' : TT} (h : PT X e t) (w : ∀ σ H Q, t' σ H Q → t σ H Q) : PT X e t' := ⟨fun pins s σ H Q I q => h.run pins s σ H Q I (w σ H Q q)⟩
theorem PWw {e : Expr} {t t' : TT} (h : PW X e t) (w : ∀ σ H Q, t' σ H Q → t σ H Q) : PW X e t' := ⟨fun wh pins s σ H Q I q => h.run wh pins s σ H Q I (w σ H Q q)⟩
theorem PAw {e : List Expr} {t t' : TA} (h : PA X e t) (w : ∀ σ H Q, t' σ H Q → t σ H Q) : PA X e t' := ⟨fun pos pins s σ H Q I q => h.run pos pins s σ H Q I (w σ H Q q)⟩
theorem PSw {e : Stmt} {t t' : TS} (h : PS X e t) (w : ∀ D σ H, t' D σ H → t D σ H) : PS X e t' := ⟨fun pins s σ H D I q => h.run pins s σ H D I (w D σ H q)⟩
theorem PSsw {e : List Stmt} {t t' : TS} (h : PSs X e t) (w : ∀ D σ H, t' D σ H → t D σ H) : PSs X e t' := ⟨fun pins s σ H D I q => h.run pins s σ H D I (w D σ H q)⟩
theorem OpRw {f : Value → Value → Sem Value} {r r' : R2} (h : OpR X f r) (w : ∀ x y H Q, r' x y H Q → r x y H Q) : OpR X f r' := fun pins s σ H x y v u Q I rx ry q => h pins s σ H x y v u Q I rx ry (w x y H Q q)
theorem OpR.or {f : Value → Value → Sem Value} {r r' : R2} (h : OpR X f r) (h' : OpR X f r') : OpR X f (fun x y H Q => r x y H Q ∨ r' x y H Q) := fun pins s σ H x y v u Q I rx ry q => q.elim (h pins s σ H x y v u Q I rx ry) (h' pins s σ H x y v u Q I rx ry)
theorem CallRw {f : Value} {r r' : List V → Hp → VK → Prop} (h : CallR X f r) (w : ∀ x H Q, r' x H Q → r x H Q) : CallR X f r' := fun pins s σ H x v Q I rx q => h pins s σ H x v Q I rx (w x H Q q)
end

/-! ### readings of mirrors -/
section
variable (Γ : Gam) (E : XK)
/-- somewhere to stand: ghost, slots, store, and behind the mirror's run -/
def At {α : Type} (m : Env' → M α) (σ : L2.St) (H : Hp) (K : α → Store → Gh → Hp → Prop) : Prop :=
  ∃ (G : Gh) (env : Env') (st : Store), GOk Γ G H st ∧ REnv Γ G H env σ ∧ Post Γ E G H (m env st) K
def tM (m : Env' → M Wv) : TE := fun σ H Q => At Γ E m σ H fun w st' G' H' => ∀ v, RepW Γ G' H' w v → Q v H'
def tB' (m : Env' → M Bool) : TT := fun σ H Q => At Γ E m σ H fun b st' G' H' => Q b H'
def aM (m : Env' → M (List Wv)) : TA := fun σ H Q => At Γ E m σ H fun ws st' G' H' => ∀ vs, RepWL Γ G' H' ws vs → Q vs H'
/-- a two-place operation on values -/
def rM (o : Wv → Wv → M Wv) : R2 := fun x y H Q => ∃ (G : Gh) (st : Store) (w u : Wv), GOk Γ G H st ∧ RepW Γ G H w x ∧ RepW Γ G H u y ∧
  Post Γ E G H (o w u st) fun z st' G' H' => ∀ v, RepW Γ G' H' z v → Q v H'
def uM (o : Wv → M Wv) : V → Hp → VK → Prop := fun x H Q => ∃ (G : Gh) (st : Store) (w : Wv), GOk Γ G H st ∧ RepW Γ G H w x ∧
  Post Γ E G H (o w st) fun z st' G' H' => ∀ v, RepW Γ G' H' z v → Q v H'
def cM (o : List Wv → M Wv) : List V → Hp → VK → Prop := fun xs H Q => ∃ (G : Gh) (st : Store) (ws : List Wv), GOk Γ G H st ∧ RepWL Γ G H ws xs ∧
  Post Γ E G H (o ws st) fun z st' G' H' => ∀ v, RepW Γ G' H' z v → Q v H'
end
section
variable {Γ : Gam} {E : XK}
/-- in a row: the first run, then go on from where it ended, the slots as they were -/
theorem At.bnd {α β : Type} {m : Env' → M α} {f : α → Env' → M β} {σ : L2.St} {H : Hp} {K : β → Store → Gh → Hp → Prop} {K1 : α → Store → Gh → Hp → Prop}
    (h : At Γ E (fun env => bnd (m env) fun a => f a env) σ H K)
    (h1 : ∀ a st G H1, GOk Γ G H1 st → (∃ env, REnv Γ G H1 env σ ∧ Post Γ E G H1 (f a env st) K) → K1 a st G H1) : At Γ E m σ H K1 := by
  obtain ⟨G, env, st, ok, re, p⟩ := h
  exact ⟨G, env, st, ok, re, p.bnd.imp fun a st' G' H' s ok' q => h1 a st' G' H' ok' ⟨env, re.step s, q⟩⟩
theorem At.imp {α : Type} {m : Env' → M α} {σ : L2.St} {H : Hp} {K K' : α → Store → Gh → Hp → Prop} (h : At Γ E m σ H K) (w : ∀ a st G' H', GOk Γ G' H' st → K a st G' H' → K' a st G' H') : At Γ E m σ H K' := by
  obtain ⟨G, env, st, ok, re, p⟩ := h
  exact ⟨G, env, st, ok, re, p.imp fun a st' G' H' _ ok' q => w a st' G' H' ok' q⟩
variable {X : Cx}

/-! ### names, constants -/
@[simp] def mVar (i : Nat) : Env' → M Wv := fun env => match env[i]? with
  | some (some w) => ret w
  | _ => bad
@[simp] def mC (d : Py) : Env' → M Wv := fun _ => ret (.d d)
theorem At.ret {α : Type} {a : α} {σ : L2.St} {H : Hp} {K : α → Store → Gh → Hp → Prop} (h : At Γ E (fun _ => ret a) σ H K) : ∃ G env st, GOk Γ G H st ∧ REnv Γ G H env σ ∧ K a st G H := by
  obtain ⟨G, env, st, ok, re, p⟩ := h
  exact ⟨G, env, st, ok, re, p.now ok⟩
theorem e_var (i : Nat) {x : Str} {pos : Pos} (hN : X.N[i]? = some x := by rfl) (hv : Vis X.env.scope x := by first | exact Or.inl rfl | exact Or.inr (Or.inl rfl) | exact Or.inr (Or.inr rfl)) (hd : (x == ("__debug__" : Str)) = false := by decide)
    (hcd : (x == ("__classdict__" : Str)) = false := by decide) : PE X (.Name x pos) (tM Γ E (mVar i)) := by
  refine PEw (pe_var hN hv hd hcd) fun σ H Q h => ?_
  obtain ⟨G, env, st, ok, re, p⟩ := h
  unfold mVar at p
  cases e : env[i]? with
  | none => simp only [e] at p; exact p.elim
  | some o =>
    cases o with
    | none => simp only [e] at p; exact p.elim
    | some w =>
      simp only [e] at p
      obtain ⟨v, h1, h2⟩ := re.2 i w e
      exact ⟨v, h1, p.now ok v h2⟩
theorem e_int {i j pos} : PE X (.Constant (.int i) j pos) (tM Γ E (mC (.int i))) := PEw pe_int fun σ H Q h => by
  obtain ⟨G, env, st, ok, re, q⟩ := At.ret h
  exact q _ (Rep.int i)
theorem e_bl {i j pos} : PE X (.Constant (.bool i) j pos) (tM Γ E (mC (.bl i))) := PEw pe_bl fun σ H Q h => by
  obtain ⟨G, env, st, ok, re, q⟩ := At.ret h
  exact q _ (Rep.bl i)
theorem e_non {j pos} : PE X (.Constant .none j pos) (tM Γ E (mC .non)) := PEw pe_non fun σ H Q h => by
  obtain ⟨G, env, st, ok, re, q⟩ := At.ret h
  exact q _ Rep.non
theorem e_str {i j pos} : PE X (.Constant (.str i) j pos) (tM Γ E (mC (.str i))) := PEw pe_str fun σ H Q h => by
  obtain ⟨G, env, st, ok, re, q⟩ := At.ret h
  exact q _ (Rep.str i)
/-- a module's constant -/
theorem e_globI {x : Str} {i : Int} {t : Tok} {pos : Pos} (hm : X.mg x = some (.int i t)) (hg : Gl X x := by rfl) (hd : (x == ("__debug__" : Str)) = false := by decide) : PE X (.Name x pos) (tM Γ E (mC (.int i))) :=
  PEw (pe_glob (v := .int i) hg hm ⟨t, rfl⟩ hd) fun σ H Q h => by
    obtain ⟨G, env, st, ok, re, q⟩ := At.ret h
    exact q _ (Rep.int i)
theorem e_globS {x : Str} {i : Str} {t : Tok} {pos : Pos} (hm : X.mg x = some (.str i t)) (hg : Gl X x := by rfl) (hd : (x == ("__debug__" : Str)) = false := by decide) : PE X (.Name x pos) (tM Γ E (mC (.str i))) :=
  PEw (pe_glob (v := .str i) hg hm ⟨t, rfl⟩ hd) fun σ H Q h => by
    obtain ⟨G, env, st, ok, re, q⟩ := At.ret h
    exact q _ (Rep.str i)

/-! ### argument lists, displays -/
@[simp] def mNil : Env' → M (List Wv) := fun _ => ret []
@[simp] def mCons (a : Env' → M Wv) (r : Env' → M (List Wv)) : Env' → M (List Wv) := fun env => bnd (a env) fun w => bnd (r env) fun ws => ret (w :: ws)
theorem a_nil : PA X [] (aM Γ E mNil) := PAw pa_nil fun σ H Q h => by
  obtain ⟨G, env, st, ok, re, q⟩ := At.ret h
  exact q _ .nil
theorem a_cons {e : Expr} {es : List Expr} {a : Env' → M Wv} {r : Env' → M (List Wv)} (ha : PE X e (tM Γ E a)) (hr : PA X es (aM Γ E r)) (hs : starEach (e :: es) X.env = (false, eval e X.env) :: starEach es X.env := by rfl) :
    PA X (e :: es) (aM Γ E (mCons a r)) := PAw (pa_cons ha hr hs) fun σ H Q h => by
  refine At.bnd h fun w st G H1 ok ⟨env, re, p⟩ v rv => ?_
  refine ⟨G, env, st, ok, re, p.bnd.imp fun ws st2 G2 H2 s2 ok2 q vs rvs => ?_⟩
  exact q.now ok2 (v :: vs) (.cons (s2.val rv) rvs)
@[simp] def allD : List Wv → Option (List Py)
  | [] => some []
  | .d x :: r => (allD r).map (x :: ·)
  | .r _ :: _ => none
theorem allD_rep {G : Gh} {H : Hp} : ∀ {ws : List Wv} {ds : List Py} {vs : List V}, allD ws = some ds → RepWL Γ G H ws vs → RepL Γ G.S H ds vs
  | [], _, _, e, .nil => by cases e; exact .nil
  | .d x :: r, ds, _, e, .cons h t => by
    unfold allD at e
    obtain ⟨ds', e1, e2⟩ := Option.map_eq_some_iff.mp e
    subst e2
    exact .cons h (allD_rep e1 t)
  | .r _ :: _, _, _, e, _ => by cases e
@[simp] theorem allD_map (ds : List Py) : allD (ds.map .d) = some ds := by
  induction ds with
  | nil => rfl
  | cons d ds ih => simp [allD, ih]
/-- a new object that is frozen at once -/
theorem GOk.frozen {G : Gh} {H : Hp} {st : Store} {p : Addr} {o : HO} (ok : GOk Γ G H st) (hp : H p = none) :
    Step G H ⟨fun a => G.S a ∨ a = p, G.π⟩ (upd H p o) ∧ GOk Γ ⟨fun a => G.S a ∨ a = p, G.π⟩ (upd H p o) st := by
  have nS : ¬ G.S p := fun h => ok.tr p (.inl h) hp
  have nP : p ∉ G.π := fun h => ok.tr p (.inr h) hp
  have st1 : Step G H ⟨fun a => G.S a ∨ a = p, G.π⟩ (upd H p o) := {
    pre := ⟨[], by simp⟩
    sub := fun _ h => .inl h
    frm := fun a o e _ => by rw [upd_ne (ne_of_none e hp)]; exact e
    new := fun a h => by
      rcases h with (h | h) | h
      · exact .inl h
      · subst h; exact .inr (.inr hp)
      · exact .inr (.inl h) }
  refine ⟨st1, ⟨ok.len, ok.nd, fun a h => ?_, fun n a c e1 e2 => ?_⟩⟩
  · by_cases ha : a = p
    · subst ha; rw [upd_same]; simp
    · rw [upd_ne ha]
      rcases h with (h | h) | h
      · exact ok.tr a (.inl h)
      · exact absurd h ha
      · exact ok.tr a (.inr h)
  · have q := ok.cells n a c e1 e2
    have hap : a ≠ p := fun e => nP (e ▸ List.mem_of_getElem? e1)
    cases c with
    | dead => trivial
    | lst ws =>
      obtain ⟨h1, xs, h2, h3⟩ := q
      exact ⟨fun z => z.elim h1 hap, xs, by rw [upd_ne hap]; exact h2, st1.vals h3⟩
    | obj c fs =>
      obtain ⟨h1, dx, gs, h2, h3⟩ := q
      exact ⟨fun z => z.elim h1 hap, dx, gs, by rw [upd_ne hap]; exact h2, st1.flds h3⟩
@[simp] def oTup (ws : List Wv) : M Wv := match allD ws with
  | some ds => if ds.length ≤ 1000000 then ret (.d (.tup ds)) else bad
  | none => bad
@[simp] def oLst (ws : List Wv) : M Wv := match allD ws with
  | some ds => if ds.length ≤ 1000000 then ret (.d (.lst ds)) else bad
  | none => bad
theorem oTup_inv {ws : List Wv} {G : Gh} {H : Hp} {st : Store} {K : Wv → Store → Gh → Hp → Prop} (p : Post Γ E G H (oTup ws st) K) : ∃ ds, allD ws = some ds ∧ ds.length ≤ 1000000 ∧ Post Γ E G H (.ok (.d (.tup ds)) st) K := by
  unfold oTup at p
  cases e : allD ws with
  | none => simp only [e] at p; exact p.elim
  | some ds =>
    simp only [e] at p
    by_cases hl : ds.length ≤ 1000000
    · rw [if_pos hl] at p; exact ⟨ds, rfl, hl, p⟩
    · rw [if_neg hl] at p; exact p.elim
theorem oLst_inv {ws : List Wv} {G : Gh} {H : Hp} {st : Store} {K : Wv → Store → Gh → Hp → Prop} (p : Post Γ E G H (oLst ws st) K) : ∃ ds, allD ws = some ds ∧ ds.length ≤ 1000000 ∧ Post Γ E G H (.ok (.d (.lst ds)) st) K := by
  unfold oLst at p
  cases e : allD ws with
  | none => simp only [e] at p; exact p.elim
  | some ds =>
    simp only [e] at p
    by_cases hl : ds.length ≤ 1000000
    · rw [if_pos hl] at p; exact ⟨ds, rfl, hl, p⟩
    · rw [if_neg hl] at p; exact p.elim
theorem sz {n : Nat} (h : n ≤ 1000000) : n ≤ sizeLine := Nat.le_trans h (by decide)
theorem sz' {n : Nat} (h : n < 1000000) : n < sizeLine := Nat.lt_of_lt_of_le h (by decide)
theorem mk_tup {G : Gh} {H : Hp} {st : Store} {ds : List Py} {vs : List V} {K : Wv → Store → Gh → Hp → Prop} (ok : GOk Γ G H st) (r : RepL Γ G.S H ds vs) (p : Post Γ E G H (.ok (.d (.tup ds)) st) K)
    {p1 : Addr} (hp : H p1 = none) : ∃ G', Step G H G' (upd H p1 (.tup vs)) ∧ GOk Γ G' (upd H p1 (.tup vs)) st ∧ Rep Γ G'.S (upd H p1 (.tup vs)) (.tup ds) (.ref p1) ∧ K (.d (.tup ds)) st G' (upd H p1 (.tup vs)) := by
  obtain ⟨s, ok'⟩ := ok.frozen (o := .tup vs) hp
  exact ⟨_, s, ok', .tup (.inr rfl) upd_same (s.dataL r), p _ _ s ok'⟩
theorem mk_lst {G : Gh} {H : Hp} {st : Store} {ds : List Py} {vs : List V} {K : Wv → Store → Gh → Hp → Prop} (ok : GOk Γ G H st) (r : RepL Γ G.S H ds vs) (p : Post Γ E G H (.ok (.d (.lst ds)) st) K)
    {p1 : Addr} (hp : H p1 = none) : ∃ G', Step G H G' (upd H p1 (.lst vs)) ∧ GOk Γ G' (upd H p1 (.lst vs)) st ∧ Rep Γ G'.S (upd H p1 (.lst vs)) (.lst ds) (.ref p1) ∧ K (.d (.lst ds)) st G' (upd H p1 (.lst vs)) := by
  obtain ⟨s, ok'⟩ := ok.frozen (o := .lst vs) hp
  exact ⟨_, s, ok', .lst (.inr rfl) (.inl upd_same) (s.dataL r), p _ _ s ok'⟩
@[simp] def mL (o : List Wv → M Wv) (a : Env' → M (List Wv)) : Env' → M Wv := fun env => bnd (a env) o
theorem e_tup {es : List Expr} {k pos} {a : Env' → M (List Wv)} (ha : PA X es (aM Γ E a)) : PE X (.Tuple es k pos) (tM Γ E (mL oTup a)) := PEw (pe_tup ha) fun σ H Q h => by
  refine At.bnd h fun ws st G H1 ok ⟨env, re, p⟩ vs rvs => ?_
  obtain ⟨ds, e, hl, p⟩ := oTup_inv p
  have r := allD_rep e rvs
  refine ⟨by rw [← r.length]; exact sz hl, fun p1 hp => ?_⟩
  obtain ⟨G', s, ok', rr, q⟩ := mk_tup ok r p hp
  exact q _ rr
theorem e_lst {es : List Expr} {pos} {a : Env' → M (List Wv)} (ha : PA X es (aM Γ E a)) : PE X (.List es pos) (tM Γ E (mL oLst a)) := PEw (pe_lst ha) fun σ H Q h => by
  refine At.bnd h fun ws st G H1 ok ⟨env, re, p⟩ vs rvs => ?_
  obtain ⟨ds, e, hl, p⟩ := oLst_inv p
  have r := allD_rep e rvs
  refine ⟨by rw [← r.length]; exact sz hl, fun p1 hp => ?_⟩
  obtain ⟨G', s, ok', rr, q⟩ := mk_lst ok r p hp
  exact q _ rr

/-! ### two-place operations -/
@[simp] def m2 (o : Wv → Wv → M Wv) (a b : Env' → M Wv) : Env' → M Wv := fun env => bnd (a env) fun x => bnd (b env) fun y => o x y
theorem tOp_of {o : Wv → Wv → M Wv} {a b : Env' → M Wv} {σ : L2.St} {H : Hp} {Q : VK} (h : tM Γ E (m2 o a b) σ H Q) : tOp (rM Γ E o) (tM Γ E a) (tM Γ E b) σ H Q := by
  refine At.bnd h fun w st G H1 ok ⟨env, re, p⟩ x rx => ?_
  refine ⟨G, env, st, ok, re, p.bnd.imp fun u st2 G2 H2 s2 ok2 q y ry => ?_⟩
  exact ⟨G2, st2, w, u, ok2, s2.val rx, ry, q⟩
theorem e_op {a b : Expr} {op : Operator} {o : Wv → Wv → M Wv} {ma mb : Env' → M Wv} {pos : Pos} (ho : OpR X (binaryOp op) (rM Γ E o)) (ha : PE X a (tM Γ E ma)) (hb : PE X b (tM Γ E mb)) : PE X (.BinOp a op b pos) (tM Γ E (m2 o ma mb)) :=
  PEw (pe_op ho ha hb) fun σ H Q h => tOp_of h

theorem plainL_obj {h : Heap} {a : Addr} {its : Array Value} (p : PlainL h a its) : ∃ n sl, h.get? a = some { cls := .type "list", dict := none, data := .seq its n, slots := sl } := by
  obtain ⟨o, n, e, h1, h2, h3⟩ := p
  obtain ⟨c, d, da, sl⟩ := o
  dsimp only at h1 h2 h3
  subst h1 h2 h3
  exact ⟨n, sl, e⟩
end
end Bj

set_option Elab.async false
set_option linter.all false
set_option maxRecDepth 100000
set_option maxHeartbeats 1000000
/-! The mirror layer, part C: operators, comparisons, tests, subscripts. -/
namespace Bj
open PySem PySem.Spec PyProof.Rows L2

/-! ### views of values -/
@[simp] def lstD : Wv → M (List Py)
  | .d (.lst l) => ret l
  | .r n => fun st => match st[n]? with
    | some (.lst ws) => match allD ws with
      | some ds => .ok ds st
      | none => .bad
    | _ => .bad
  | _ => bad
@[simp] def tupD : Wv → M (List Py)
  | .d (.tup l) => ret l
  | _ => bad
def seqD (w : Wv) : M (List Py) := match w with
  | .d (.tup l) => ret l
  | w => lstD w
@[simp] def intD : Wv → M Int
  | .d (.int i) => ret i
  | _ => bad
@[simp] def strD : Wv → M Str
  | .d (.str s) => ret s
  | _ => bad
@[simp] def blD : Wv → M Bool
  | .d (.bl b) => ret b
  | _ => bad
@[simp] def pyD : Wv → M Py
  | .d x => ret x
  | .r n => fun st => match st[n]? with
    | some (.lst ws) => match allD ws with
      | some ds => .ok (.lst ds) st
      | none => .bad
    | _ => .bad
section
variable {Γ : Gam} {E : XK} {X : Cx} {G : Gh} {H : Hp} {st : Store} {w : Wv} {v : V} {α : Type} {K : α → Store → Gh → Hp → Prop}
theorem cell_lst {n : Nat} {ws : List Wv} {a : Addr} (ok : GOk Γ G H st) (hp : G.π[n]? = some a) (e : st[n]? = some (.lst ws)) : ∃ xs, ¬ G.S a ∧ H a = some (.lst xs) ∧ RepWL Γ G H ws xs := by
  obtain ⟨h1, xs, h2, h3⟩ := ok.cells n a _ hp e
  exact ⟨xs, h1, h2, h3⟩
theorem lstD_inv {f : List Py → M α} (ok : GOk Γ G H st) (r : RepW Γ G H w v) (p : Post Γ E G H (bnd (lstD w) f st) K) :
    ∃ ds a xs, v = .ref a ∧ Rd H a (.lst xs) ∧ RepL Γ G.S H ds xs ∧ Post Γ E G H (f ds st) K := by
  cases w with
  | d x =>
    cases x with
    | lst l => cases r with | lst s h t => exact ⟨_, _, _, rfl, h, t, p⟩
    | _ => exact p.elim
  | r n =>
    obtain ⟨a, e, rfl⟩ := r
    have p : Post Γ E G H (bnd (fun st => match st[n]? with
      | some (.lst ws) => match allD ws with
        | some ds => .ok ds st
        | none => .bad
      | _ => .bad) f st) K := p
    unfold bnd at p
    cases h : st[n]? with
    | none => simp only [h] at p; exact p.elim
    | some c =>
      cases c with
      | lst ws =>
        simp only [h] at p
        obtain ⟨xs, _, h2, h3⟩ := cell_lst ok e h
        cases h4 : allD ws with
        | none => simp only [h4] at p; exact p.elim
        | some ds =>
          simp only [h4] at p
          exact ⟨ds, a, xs, rfl, .inl h2, allD_rep h4 h3, p⟩
      | obj c fs => simp only [h] at p; exact p.elim
      | dead => simp only [h] at p; exact p.elim
theorem tupD_inv {f : List Py → M α} (r : RepW Γ G H w v) (p : Post Γ E G H (bnd (tupD w) f st) K) : ∃ ds, Rep Γ G.S H (.tup ds) v ∧ Post Γ E G H (f ds st) K := by
  cases w with
  | d x =>
    cases x with
    | tup l => exact ⟨_, r, p⟩
    | _ => exact p.elim
  | r n => exact p.elim
theorem seqD_inv {f : List Py → M α} (ok : GOk Γ G H st) (r : RepW Γ G H w v) (p : Post Γ E G H (bnd (seqD w) f st) K) :
    ∃ ds a xs, v = .ref a ∧ (Rd H a (.lst xs) ∨ H a = some (.tup xs)) ∧ RepL Γ G.S H ds xs ∧ Post Γ E G H (f ds st) K := by
  by_cases hw : ∃ l, w = .d (.tup l)
  · obtain ⟨l, rfl⟩ := hw
    cases r with
    | tup s h t => exact ⟨_, _, _, rfl, .inr h, t, p⟩
  · have e : seqD w = lstD w := by
      cases w with
      | d x => cases x <;> first | rfl | exact absurd ⟨_, rfl⟩ hw
      | r n => rfl
    rw [e] at p
    obtain ⟨ds, a, xs, h1, h2, h3, h4⟩ := lstD_inv ok r p
    exact ⟨ds, a, xs, h1, .inl h2, h3, h4⟩
theorem intD_inv {f : Int → M α} (r : RepW Γ G H w v) (p : Post Γ E G H (bnd (intD w) f st) K) : ∃ i, v = .int i ∧ Post Γ E G H (f i st) K := by
  cases w with
  | d x =>
    cases x with
    | int i => cases r; exact ⟨i, rfl, p⟩
    | _ => exact p.elim
  | r n => exact p.elim
theorem strD_inv {f : Str → M α} (r : RepW Γ G H w v) (p : Post Γ E G H (bnd (strD w) f st) K) : ∃ i, v = .str i ∧ Post Γ E G H (f i st) K := by
  cases w with
  | d x =>
    cases x with
    | str i => cases r; exact ⟨i, rfl, p⟩
    | _ => exact p.elim
  | r n => exact p.elim
theorem blD_inv {f : Bool → M α} (r : RepW Γ G H w v) (p : Post Γ E G H (bnd (blD w) f st) K) : ∃ i, v = .bl i ∧ Post Γ E G H (f i st) K := by
  cases w with
  | d x =>
    cases x with
    | bl i => cases r; exact ⟨i, rfl, p⟩
    | _ => exact p.elim
  | r n => exact p.elim
/-- as pure data, as it stands now: a list cell is frozen for the look only -/
inductive Now (Γ : Gam) (G : Gh) (H : Hp) : Py → V → Prop
  | dat {x : Py} {v : V} : Rep Γ G.S H x v → Now Γ G H x v
  | cell {a : Addr} {xs : List V} {ds : List Py} : H a = some (.lst xs) → RepL Γ G.S H ds xs → Now Γ G H (.lst ds) (.ref a)
theorem pyD_inv {f : Py → M α} (ok : GOk Γ G H st) (r : RepW Γ G H w v) (p : Post Γ E G H (bnd (pyD w) f st) K) : ∃ x, Now Γ G H x v ∧ Post Γ E G H (f x st) K := by
  cases w with
  | d x => exact ⟨x, .dat r, p⟩
  | r n =>
    obtain ⟨a, e, rfl⟩ := r
    have p : Post Γ E G H (bnd (fun st => match st[n]? with
      | some (.lst ws) => match allD ws with
        | some ds => .ok (.lst ds) st
        | none => .bad
      | _ => .bad) f st) K := p
    unfold bnd at p
    cases h : st[n]? with
    | none => simp only [h] at p; exact p.elim
    | some c =>
      cases c with
      | lst ws =>
        simp only [h] at p
        obtain ⟨xs, _, h2, h3⟩ := cell_lst ok e h
        cases h4 : allD ws with
        | none => simp only [h4] at p; exact p.elim
        | some ds =>
          simp only [h4] at p
          exact ⟨.lst ds, .cell h2 (allD_rep h4 h3), p⟩
      | obj c fs => simp only [h] at p; exact p.elim
      | dead => simp only [h] at p; exact p.elim
theorem Post.iff {c : Prop} [Decidable c] {m : M α} (p : Post Γ E G H ((if c then m else bad) st) K) : c ∧ Post Γ E G H (m st) K := by
  by_cases h : c
  · rw [if_pos h] at p; exact ⟨h, p⟩
  · rw [if_neg h] at p; exact p.elim
/-- the end of an operation whose value is data made of no object -/
theorem Post.fin {x : Wv} {v : V} {Q : VK} (ok : GOk Γ G H st) (p : Post Γ E G H (.ok x st) fun z st' G' H' => ∀ v, RepW Γ G' H' z v → Q v H') (r : RepW Γ G H x v) : Q v H := p.now ok v r

/-! ### ints -/
/-- 2^400 -/
def big : Int := 2582249878086908589655919172003011874329705792829223512830659356540647622016841194629645353280137831435903171972747493376
def oSub (w u : Wv) : M Wv := bnd (intD w) fun i => bnd (intD u) fun j => ret (.d (.int (i - j)))
def oMulI (w u : Wv) : M Wv := bnd (intD w) fun i => bnd (intD u) fun j => if -big < i ∧ i < big ∧ -big < j ∧ j < big then ret (.d (.int (i * j))) else bad
def oDiv (w u : Wv) : M Wv := bnd (intD w) fun i => bnd (intD u) fun j => if 0 < j ∧ j < big then ret (.d (.int (i / j))) else bad
def oMod (w u : Wv) : M Wv := bnd (intD w) fun i => bnd (intD u) fun j => if 0 < j then ret (.d (.int (i % j))) else bad
def oPow (w u : Wv) : M Wv := bnd (intD w) fun i => bnd (intD u) fun j => if 0 ≤ j ∧ j ≤ 1000 ∧ -18446744073709551616 < i ∧ i < 18446744073709551616 then ret (.d (.int (i ^ j.toNat))) else bad
theorem int2 {f : Value → Value → Sem Value} {C : Int → Int → Prop} {g : Int → Int → V} {h : Int → Int → M Wv} (ho : OpR X f (rI C g))
    (k : ∀ (i j : Int) (G : Gh) (H : Hp) (st : Store) (Q : VK), GOk Γ G H st → Post Γ E G H (h i j st) (fun z st' G' H' => ∀ v, RepW Γ G' H' z v → Q v H') → C i j ∧ Q (g i j) H) :
    OpR X f (rM Γ E fun w u => bnd (intD w) fun i => bnd (intD u) fun j => h i j) := OpRw ho fun x y H Q q => by
  obtain ⟨G, st, w, u, ok, rw', ru, p⟩ := q
  obtain ⟨i, rfl, p⟩ := intD_inv rw' p
  obtain ⟨j, rfl, p⟩ := intD_inv ru p
  obtain ⟨h1, h2⟩ := k i j G H st Q ok p
  exact ⟨i, j, rfl, rfl, h1, h2⟩
theorem rI0_rI {g : Int → Int → V} {f : Value → Value → Sem Value} (h : OpR X f (rI0 g)) : OpR X f (rI (fun _ _ => True) g) := OpRw h fun x y H Q q => by
  obtain ⟨i, j, e1, e2, _, q⟩ := q
  exact ⟨i, j, e1, e2, q⟩
theorem r_sub : OpR X (binaryOp .Sub) (rM Γ E oSub) := int2 (rI0_rI op_sub) fun i j G H st Q ok p => ⟨trivial, p.fin ok (.int _)⟩
theorem big_lt {i : Int} (h1 : -big < i) (h2 : i < big) : i.natAbs < 2 ^ 400 := by
  have e : (2 : Nat) ^ 400 = 2582249878086908589655919172003011874329705792829223512830659356540647622016841194629645353280137831435903171972747493376 := by decide +kernel
  rw [e]
  unfold big at h1 h2
  omega
theorem r_mulI : OpR X (binaryOp .Mult) (rM Γ E oMulI) := int2 op_mulW fun i j G H st Q ok p => by
  obtain ⟨⟨h1, h2, h3, h4⟩, p⟩ := p.iff
  exact ⟨wide_mul (big_lt h1 h2) (big_lt h3 h4) (by decide) (by decide) (by decide), p.fin ok (.int _)⟩
theorem r_div : OpR X (binaryOp .FloorDiv) (rM Γ E oDiv) := int2 op_fdivW fun i j G H st Q ok p => by
  obtain ⟨⟨h1, h2⟩, p⟩ := p.iff
  exact ⟨wide_div h1 (big_lt (by unfold big; omega) h2) (by decide) (by decide), p.fin ok (.int _)⟩
theorem r_mod : OpR X (binaryOp .Mod) (rM Γ E oMod) := int2 op_mod fun i j G H st Q ok p => by
  obtain ⟨h1, p⟩ := p.iff
  exact ⟨h1, p.fin ok (.int _)⟩
theorem r_pow : OpR X (binaryOp .Pow) (rM Γ E oPow) := int2 op_pow fun i j G H st Q ok p => by
  obtain ⟨⟨h1, h2, h3, h4⟩, p⟩ := p.iff
  refine ⟨⟨h1, by omega, ?_⟩, p.fin ok (.int _)⟩
  have e : (2 : Nat) ^ 64 = 18446744073709551616 := by decide
  rw [e]
  omega

/-! ### + and * over sequences -/
theorem lstR {pins : List (Addr × Obj)} {σ : L2.St} {s : Shared} {l : Addr} {xs : List V} (I : Inv X pins σ H s) (hH : Rd H l (.lst xs)) :
    xs.length ≤ sizeLine ∧ ∃ (its : List Value) (n : Nat), Vals xs its ∧ xs.length = its.length ∧ s.heap.get? l = some { cls := .type "list", data := .seq its.toArray n } := by
  obtain ⟨z, its, n, r, e⟩ := hH.ok I.hok
  exact ⟨z, its, n, r, r.length, e⟩
def rCatR : R2 := fun x y H Q => ∃ l b xs zs, x = .ref l ∧ y = .ref b ∧ Rd H l (.lst xs) ∧ Rd H b (.lst zs) ∧ xs.length + zs.length ≤ sizeLine ∧ ∀ p, H p = none → Q (.ref p) (upd H p (.lst (xs ++ zs)))
theorem op_catR : OpR X (binaryOp .Add) rCatR := by
  intro pins s σ H x y v u Q I rx ry h
  obtain ⟨l, b, xs, zs, rfl, rfl, hH, hB, hz, q⟩ := h
  cases rx
  cases ry
  obtain ⟨z, its, n, r, hl, e⟩ := lstR I hH
  obtain ⟨z2, its2, n2, r2, hl2, e2⟩ := lstR I hB
  refine PySem.P.add_list e e2 ?_ (by rw [List.size_toArray, List.size_toArray]; omega)
  have ea : its.toArray ++ its2.toArray = (its ++ its2).toArray := by simp
  rw [ea]
  exact ⟨.ref _, _, I.lnew (t' := s.toks) (r.append r2) (by rw [List.length_append]; omega), rfl, q _ I.fresh⟩
def oAddI (w u : Wv) : M Wv := bnd (intD w) fun i => bnd (intD u) fun j => ret (.d (.int (i + j)))
def oAddS (w u : Wv) : M Wv := bnd (strD w) fun i => bnd (strD u) fun j => if i.length + j.length ≤ 1000000 then ret (.d (.str (i ++ j))) else bad
def oAddT (w u : Wv) : M Wv := bnd (tupD w) fun i => bnd (tupD u) fun j => if i.length + j.length ≤ 1000000 then ret (.d (.tup (i ++ j))) else bad
def oAddL (w u : Wv) : M Wv := bnd (lstD w) fun i => bnd (lstD u) fun j => if i.length + j.length ≤ 1000000 then ret (.d (.lst (i ++ j))) else bad
theorem r_addI : OpR X (binaryOp .Add) (rM Γ E oAddI) := int2 (rI0_rI op_add) fun i j G H st Q ok p => ⟨trivial, p.fin ok (.int _)⟩
theorem r_addS : OpR X (binaryOp .Add) (rM Γ E oAddS) := OpRw op_add_str fun x y H Q q => by
  obtain ⟨G, st, w, u, ok, rw', ru, p⟩ := q
  obtain ⟨i, rfl, p⟩ := strD_inv rw' p
  obtain ⟨j, rfl, p⟩ := strD_inv ru p
  obtain ⟨h, p⟩ := p.iff
  exact ⟨i, j, rfl, rfl, sz h, p.fin ok (.str _)⟩
theorem r_addL : OpR X (binaryOp .Add) (rM Γ E oAddL) := OpRw op_catR fun x y H Q q => by
  obtain ⟨G, st, w, u, ok, rw', ru, p⟩ := q
  obtain ⟨ds, a, xs, rfl, h1, h2, p⟩ := lstD_inv ok rw' p
  obtain ⟨es, b, zs, rfl, h3, h4, p⟩ := lstD_inv ok ru p
  obtain ⟨h, p⟩ := p.iff
  refine ⟨a, b, xs, zs, rfl, rfl, h1, h3, by rw [← h2.length, ← h4.length]; exact sz h, fun p1 hp => ?_⟩
  obtain ⟨G', s, ok', rr, q⟩ := mk_lst ok (h2.append h4) p hp
  exact q _ rr
theorem r_addT : OpR X (binaryOp .Add) (rM Γ E oAddT) := OpRw op_catA fun x y H Q q => by
  obtain ⟨G, st, w, u, ok, rw', ru, p⟩ := q
  obtain ⟨ds, r1, p⟩ := tupD_inv rw' p
  obtain ⟨es, r2, p⟩ := tupD_inv ru p
  obtain ⟨h, p⟩ := p.iff
  cases r1 with
  | @tup a xs _ s1 h1 h2 =>
    cases r2 with
    | @tup b zs _ s3 h3 h4 =>
      refine ⟨a, b, xs, zs, rfl, rfl, .of h1, .of h3, by rw [← h2.length, ← h4.length]; exact sz h, fun e => ?_, fun e1 e2 => ?_, fun _ _ p1 hp => ?_⟩
      · subst e
        cases h2
        exact p.fin ok (.tup s3 h3 h4)
      · subst e2
        cases h4
        exact p.fin ok (by rw [List.append_nil]; exact .tup s1 h1 h2)
      · obtain ⟨G', s, ok', rr, q⟩ := mk_tup ok (h2.append h4) p hp
        exact q _ rr
def oAdd (w u : Wv) : M Wv := match w with
  | .d (.int _) => oAddI w u
  | .d (.str _) => oAddS w u
  | .d (.tup _) => oAddT w u
  | w => oAddL w u
theorem OpR.orM {f : Value → Value → Sem Value} {o o' o'' : Wv → Wv → M Wv} (h : OpR X f (rM Γ E o)) (h' : OpR X f (rM Γ E o')) (c : ∀ w u, o'' w u = o w u ∨ o'' w u = o' w u) : OpR X f (rM Γ E o'') :=
  OpRw (OpR.or h h') fun x y H Q q => by
    obtain ⟨G, st, w, u, ok, rw', ru, p⟩ := q
    rcases c w u with e | e
    · exact .inl ⟨G, st, w, u, ok, rw', ru, by rw [← e]; exact p⟩
    · exact .inr ⟨G, st, w, u, ok, rw', ru, by rw [← e]; exact p⟩
theorem r_add : OpR X (binaryOp .Add) (rM Γ E oAdd) :=
  OpR.orM (o := fun w u => match w with | .d (.int _) => oAddI w u | _ => oAddS w u) (o' := fun w u => match w with | .d (.tup _) => oAddT w u | _ => oAddL w u)
    (OpR.orM r_addI r_addS fun w u => by
      cases w with
      | d x => cases x <;> (first | exact .inl rfl | exact .inr rfl)
      | r n => exact .inr rfl)
    (OpR.orM r_addT r_addL fun w u => by
      cases w with
      | d x => cases x <;> (first | exact .inl rfl | exact .inr rfl)
      | r n => exact .inr rfl)
    fun w u => by
      cases w with
      | d x => cases x <;> (first | exact .inl rfl | exact .inr rfl)
      | r n => exact .inr rfl
/-- list * int -/
def rRepR : R2 := fun x y H Q => ∃ l k xs, x = .ref l ∧ y = .int k ∧ Rd H l (.lst xs) ∧ -(2 ^ 63) ≤ k ∧ k < 2 ^ 63 ∧ xs.length * k.toNat ≤ sizeLine ∧
  ∀ p, H p = none → Q (.ref p) (upd H p (.lst (List.replicate k.toNat xs).flatten))
theorem op_repR : OpR X (binaryOp .Mult) rRepR := by
  intro pins s σ H x y v u Q I rx ry h
  obtain ⟨l, k, xs, rfl, rfl, hH, h1, h2, hz, q⟩ := h
  cases rx
  obtain ⟨t, rfl⟩ := ry
  obtain ⟨z, its, n, r, hl, e⟩ := lstR I hH
  have hlen : its.toArray.size * k.toNat ≤ sizeLine := by rw [List.size_toArray, ← hl]; exact hz
  have hcap : ¬ its.toArray.size * k.toNat > (2 ^ 63 - 1) / 8 := by
    have : (sizeLine : Nat) ≤ (2 ^ 63 - 1) / 8 := by decide
    omega
  have hfit : ¬ (!Builtin.List.listFitsIndex k) = true := by
    rw [fitsIndex_both h1 h2]
    exact Bool.false_ne_true
  have hlong : ¬ Builtin.List.listTooLong (its.toArray.size * k.toNat) = true := by
    rw [notLongL hlen]
    exact Bool.false_ne_true
  have hnew : List.foldl (fun x1 x2 => x1 ++ x2) #[] (List.replicate (if its.toArray.isEmpty = true then 0 else k.toNat) its.toArray) = (List.replicate k.toNat its).flatten.toArray := by
    have f0 : ∀ m : Nat, List.foldl (fun x1 x2 => x1 ++ x2) #[] (List.replicate m its.toArray) = (List.replicate m its).flatten.toArray := fun m => by
      have := foldl_rep its m []
      rw [List.nil_append] at this
      exact this
    rw [f0]
    cases its with
    | nil => simp
    | cons a r' => rw [if_neg (by simp)]
  refine wpAny_binaryOp_repeat_ref (T := "list") (U := "int") (by decide) ⟨_, e, rfl⟩ (fun s' => typeIs_int s' k t) noFill_list_mul F.fills_int_mul F.slot_int_rmul repeat_list F.slot_int_index.lookup
    (call_meets F.slot_int_rmul (typeIs_int s k t) F.entry_int_rmul (F.args_int_rmul_2 _ _) (int___rmul___int_list k t l its.toArray n)
      ⟨e, rfl, ⟨_, e, rfl⟩, call_meets F.slot_list_mul ⟨_, e, rfl⟩ F.entry_list_mul (F.args_list_mul_2 _ _) (AutoListH.list___mul___list_int_3 l its.toArray n k t hfit hcap hlong) ⟨e, ?_⟩⟩)
  rw [hnew]
  exact ⟨.ref _, _, I.lnew (t' := s.toks) (r.rep k.toNat) (by rw [PyProof.Rows.lm_len_rep_flat, Nat.mul_comm]; exact hz), rfl, q _ I.fresh⟩
def oMulL (w u : Wv) : M Wv := bnd (lstD w) fun l => bnd (intD u) fun k => if -1000000 ≤ k ∧ k ≤ 1000000 ∧ l.length * k.toNat ≤ 1000000 then ret (.d (.lst (List.replicate k.toNat l).flatten)) else bad
theorem r_mulL : OpR X (binaryOp .Mult) (rM Γ E oMulL) := OpRw op_repR fun x y H Q q => by
  obtain ⟨G, st, w, u, ok, rw', ru, p⟩ := q
  obtain ⟨ds, a, xs, rfl, h1, h2, p⟩ := lstD_inv ok rw' p
  obtain ⟨k, rfl, p⟩ := intD_inv ru p
  obtain ⟨⟨h3, h4, h5⟩, p⟩ := p.iff
  refine ⟨a, k, xs, rfl, rfl, h1, by omega, by omega, by rw [← h2.length]; exact sz h5, fun p1 hp => ?_⟩
  obtain ⟨G', s, ok', rr, q⟩ := mk_lst ok (h2.rep _) p hp
  exact q _ rr
def oMul (w u : Wv) : M Wv := match w with
  | .d (.int _) => oMulI w u
  | w => oMulL w u
theorem r_mul : OpR X (binaryOp .Mult) (rM Γ E oMul) := OpR.orM r_mulI r_mulL fun w u => by
  cases w with
  | d x => cases x <;> (first | exact .inl rfl | exact .inr rfl)
  | r n => exact .inr rfl

/-! ### comparisons of ints -/
def oCmp (f : Int → Int → Bool) (w u : Wv) : M Wv := bnd (intD w) fun i => bnd (intD u) fun j => ret (.d (.bl (f i j)))
theorem r_lt : OpR X (compareOp .Lt) (rM Γ E (oCmp fun i j => decide (i < j))) := int2 (rI0_rI op_lt) fun i j G H st Q ok p => ⟨trivial, p.fin ok (.bl _)⟩
theorem r_le : OpR X (compareOp .LtE) (rM Γ E (oCmp fun i j => decide (i ≤ j))) := int2 (rI0_rI op_le) fun i j G H st Q ok p => ⟨trivial, p.fin ok (.bl _)⟩
theorem r_gt : OpR X (compareOp .Gt) (rM Γ E (oCmp fun i j => decide (j < i))) := int2 (rI0_rI op_gt) fun i j G H st Q ok p => ⟨trivial, p.fin ok (.bl _)⟩
theorem r_ge : OpR X (compareOp .GtE) (rM Γ E (oCmp fun i j => decide (j ≤ i))) := int2 (rI0_rI op_ge) fun i j G H st Q ok p => ⟨trivial, p.fin ok (.bl _)⟩
end

/-! ### == of data -/
mutual
def eqP : Py → Py → Bool
  | .non, .non => true
  | .bl a, .bl b => a == b
  | .bl a, .int j => (if a then 1 else 0) == j
  | .int i, .bl b => i == (if b then 1 else 0)
  | .int i, .int j => i == j
  | .str x, .str y => x == y
  | .lst xs, .lst ys => eqPs xs ys
  | .tup xs, .tup ys => eqPs xs ys
  | .obj c fs, .obj c' gs => c == c' && eqFs fs gs
  | _, _ => false
def eqPs : List Py → List Py → Bool
  | [], [] => true
  | x :: xs, y :: ys => eqP x y && eqPs xs ys
  | _, _ => false
def eqFs : List (Str × Py) → List (Str × Py) → Bool
  | [], [] => true
  | (_, x) :: xs, (_, y) :: ys => eqP x y && eqFs xs ys
  | _, _ => false
end
mutual
def toPD : Py → PyData
  | .non => .none
  | .bl b => .bool b
  | .int i => .int i
  | .str s => .str s
  | .tup l => .tuple (toPDs l)
  | .lst l => .list (toPDs l)
  | .obj _ _ => .none
def toPDs : List Py → List PyData
  | [] => []
  | x :: xs => toPD x :: toPDs xs
end
mutual
/-- data that == may look at: no objects, texts of signs, nested at most so deep -/
def okD : Nat → Py → Bool
  | _, .non => true
  | _, .bl _ => true
  | _, .int _ => true
  | _, .str s => PySem.PyData.strOk s
  | 0, .tup _ => false
  | 0, .lst _ => false
  | k + 1, .tup l => okDs k l
  | k + 1, .lst l => okDs k l
  | _, .obj _ _ => false
def okDs : Nat → List Py → Bool
  | _, [] => true
  | k, x :: xs => okD k x && okDs k xs
end
mutual
theorem eqv_toPD : ∀ (k : Nat) (x y : Py), okD k x = true → okD k y = true → PyData.eqv (toPD x) (toPD y) = eqP x y
  | _, .non, y, _, h => by cases y <;> first | rfl | (simp [okD] at h)
  | _, .bl a, y, _, h => by cases y <;> first | rfl | (simp [okD] at h)
  | _, .int i, y, _, h => by cases y <;> first | rfl | (simp [okD] at h)
  | _, .str s, y, _, h => by cases y <;> first | rfl | (simp [okD] at h)
  | 0, .tup l, y, g, h => by simp [okD] at g
  | 0, .lst l, y, g, h => by simp [okD] at g
  | k + 1, .tup l, y, g, h => by
    cases y <;> first
      | rfl
      | (simp [okD] at h; done)
      | (rename_i l2; simp only [okD] at g h; simp only [toPD, PyData.eqv, eqP]; exact eqvs_toPD k l l2 g h)
  | k + 1, .lst l, y, g, h => by
    cases y <;> first
      | rfl
      | (simp [okD] at h; done)
      | (rename_i l2; simp only [okD] at g h; simp only [toPD, PyData.eqv, eqP]; exact eqvs_toPD k l l2 g h)
  | _, .obj _ _, _, g, _ => by simp [okD] at g
theorem eqvs_toPD : ∀ (k : Nat) (x y : List Py), okDs k x = true → okDs k y = true → PyData.eqvAll (toPDs x) (toPDs y) = eqPs x y
  | _, [], [], _, _ => rfl
  | _, [], _ :: _, _, _ => rfl
  | _, _ :: _, [], _, _ => rfl
  | k, x :: xs, y :: ys, g, h => by
    simp only [okDs, Bool.and_eq_true] at g h
    simp only [toPDs, PyData.eqvAll, eqPs, eqv_toPD k x y g.1 h.1, eqvs_toPD k xs ys g.2 h.2]
end
mutual
theorem okD_lay : ∀ (k : Nat) (x : Py), okD k x = true → (toPD x).canLay0 = true ∧ (toPD x).depth ≤ k
  | _, .non, _ => by simp [toPD, PyData.canLay0, PyData.depth]
  | _, .bl a, _ => by simp [toPD, PyData.canLay0, PyData.depth]
  | _, .int i, _ => by simp [toPD, PyData.canLay0, PyData.depth]
  | _, .str s, h => by simpa [toPD, PyData.canLay0, PyData.depth, okD] using h
  | 0, .tup l, g => by simp [okD] at g
  | 0, .lst l, g => by simp [okD] at g
  | k + 1, .tup l, g => by
    simp only [okD] at g
    have := okDs_lay k l g
    simp only [toPD, PyData.canLay0, PyData.depth]
    exact ⟨this.1, by omega⟩
  | k + 1, .lst l, g => by
    simp only [okD] at g
    have := okDs_lay k l g
    simp only [toPD, PyData.canLay0, PyData.depth]
    exact ⟨this.1, by omega⟩
  | _, .obj _ _, g => by simp [okD] at g
theorem okDs_lay : ∀ (k : Nat) (x : List Py), okDs k x = true → PyData.canLayAll0 (toPDs x) = true ∧ PyData.depthAll (toPDs x) ≤ k
  | _, [], _ => by simp [toPDs, PyData.canLayAll0, PyData.depthAll]
  | k, x :: xs, g => by
    simp only [okDs, Bool.and_eq_true] at g
    have h1 := okD_lay k x g.1
    have h2 := okDs_lay k xs g.2
    simp only [toPDs, PyData.canLayAll0, PyData.depthAll, Bool.and_eq_true]
    exact ⟨⟨h1.1, h2.1⟩, by omega⟩
end
theorem okD_shaped {x : Py} (h : okD 20 x = true) : SeqAt.shaped (toPD x) = true := by
  obtain ⟨h1, h2⟩ := okD_lay 20 x h
  unfold SeqAt.shaped
  rw [h1, Bool.true_and]
  exact decide_eq_true (by omega)
section
variable {Γ : Gam} {S : Addr → Prop} {H : Hp} {K : PySem.W.Frag}
theorem Rd.sql {a : Addr} {xs : List V} (h : Rd H a (.lst xs)) : SqL K H a xs := .inl h
mutual
theorem Rep.dp : ∀ {k : Nat} {x : Py} {v : V}, okD k x = true → Rep Γ S H x v → Dp K H v (toPD x)
  | _, _, _, _, .non => .non
  | _, _, _, _, .bl b => .bl b
  | _, _, _, _, .int b => .int b
  | _, _, _, _, .str b => .str b
  | 0, _, _, g, .tup s h t => by simp [okD] at g
  | 0, _, _, g, .lst s h t => by simp [okD] at g
  | k + 1, _, _, g, .tup s h t => .tup (.of h) (RepL.dps (k := k) (by simpa [okD] using g) t)
  | k + 1, _, _, g, .lst s h t => .lst (Rd.sql h) (RepL.dps (k := k) (by simpa [okD] using g) t)
  | _, _, _, g, .obj _ _ _ => by simp [okD] at g
theorem RepL.dps : ∀ {k : Nat} {x : List Py} {v : List V}, okDs k x = true → RepL Γ S H x v → DpAll K H v (toPDs x)
  | _, _, _, _, .nil => .nil
  | k, _, _, g, .cons r t => by
    simp only [okDs, Bool.and_eq_true] at g
    exact .cons (Rep.dp (k := k) g.1 r) (RepL.dps (k := k) g.2 t)
end
theorem Now.dp {G : Gh} {x : Py} {v : V} (g : okD 20 x = true) (h : Now Γ G H x v) : Dp K H v (toPD x) := by
  cases h with
  | dat r => exact r.dp g
  | cell h r => exact .lst (.of h) (RepL.dps (k := 19) (by simpa [okD] using g) r)
end
def oEq (w u : Wv) : M Wv := bnd (pyD w) fun x => bnd (pyD u) fun y => if okD 20 x = true ∧ okD 20 y = true then ret (.d (.bl (eqP x y))) else bad
def oNe (w u : Wv) : M Wv := bnd (pyD w) fun x => bnd (pyD u) fun y => if okD 20 x = true ∧ okD 20 y = true then ret (.d (.bl (!eqP x y))) else bad
section
variable {Γ : Gam} {E : XK} {X : Cx}
theorem r_eq (hu : X.A.units + 64 < cLine) : OpR X (compareOp .Eq) (rM Γ E oEq) := OpRw (op_eqD hu) fun x y H Q q => by
  obtain ⟨G, st, w, u, ok, rw', ru, p⟩ := q
  obtain ⟨d, n1, p⟩ := pyD_inv ok rw' p
  obtain ⟨e, n2, p⟩ := pyD_inv ok ru p
  obtain ⟨⟨h1, h2⟩, p⟩ := p.iff
  refine ⟨_, _, n1.dp h1, n2.dp h2, okD_shaped h1, okD_shaped h2, ?_⟩
  rw [eqv_toPD 20 d e h1 h2]
  exact p.fin ok (.bl _)
theorem r_ne (hu : X.A.units + 64 < cLine) : OpR X (compareOp .NotEq) (rM Γ E oNe) := OpRw (op_neD hu) fun x y H Q q => by
  obtain ⟨G, st, w, u, ok, rw', ru, p⟩ := q
  obtain ⟨d, n1, p⟩ := pyD_inv ok rw' p
  obtain ⟨e, n2, p⟩ := pyD_inv ok ru p
  obtain ⟨⟨h1, h2⟩, p⟩ := p.iff
  refine ⟨_, _, n1.dp h1, n2.dp h2, okD_shaped h1, okD_shaped h2, ?_⟩
  rw [eqv_toPD 20 d e h1 h2]
  exact p.fin ok (.bl _)
end
end Bj

set_option Elab.async false
set_option linter.all false
set_option maxRecDepth 100000
set_option maxHeartbeats 1000000
/-! The mirror layer, part D: comparisons and tests as expressions, subscripts, built-ins by name, methods of built-in types. -/
namespace Bj
open PySem PySem.Spec PyProof.Rows L2
section
variable {Γ : Gam} {E : XK} {X : Cx}

/-! ### comparisons, tests -/
theorem e_cmp {a b : Expr} {op : CmpOp} {o : Wv → Wv → M Wv} {ma mb : Env' → M Wv} {pos : Pos} (ho : OpR X (compareOp op) (rM Γ E o)) (ha : PE X a (tM Γ E ma)) (hb : PE X b (tM Γ E mb)) (hm : behindInMarks op b = false) :
    PE X (.Compare a [op] [b] pos) (tM Γ E (m2 o ma mb)) := PEw (pe_cmpR ho ha hb hm) fun σ H Q h => tOp_of h
@[simp] def asB (m : Env' → M Wv) : Env' → M Bool := fun env => bnd (m env) blD
theorem blD_ret {G : Gh} {H : Hp} {st : Store} {w : Wv} {v : V} {Q : Bool → Hp → Prop} (ok : GOk Γ G H st) (r : RepW Γ G H w v) (p : Post Γ E G H (blD w st) fun b st' G' H' => Q b H') : ∃ k, v = .bl k ∧ Q k H := by
  have p' : Post Γ E G H (bnd (blD w) ret st) fun b st' G' H' => Q b H' := by
    unfold bnd
    cases e : blD w st with
    | ok b st' => rw [e] at p; exact p
    | ex x st' => rw [e] at p; exact p
    | bad => rw [e] at p; exact p
  obtain ⟨b, e, q⟩ := blD_inv r p'
  exact ⟨b, e, q.now ok⟩
theorem asB_of {m : Env' → M Wv} {σ : L2.St} {H : Hp} {Q : Bool → Hp → Prop} (h : tB' Γ E (asB m) σ H Q) : tM Γ E m σ H fun x H1 => ∃ k, x = .bl k ∧ Q k H1 := by
  refine At.bnd (f := fun w _ => blD w) h fun w st G H1 ok ⟨env, re, p⟩ v rv => ?_
  exact blD_ret ok rv p
theorem t_val {e : Expr} {m : Env' → M Wv} (h : PE X e (tM Γ E m)) (he : ∀ whole, isTrue e X.env whole = (do let v ← whole; standAt e.pos; holding [v] (truthy v)) := by intro _; rfl) : PT X e (tB' Γ E (asB m)) :=
  PTw' (pt_val h he) fun σ H Q q => asB_of q
theorem t_cmp {a b : Expr} {op : CmpOp} {o : Wv → Wv → M Wv} {ma mb : Env' → M Wv} {pos : Pos} (ho : OpR X (compareOp op) (rM Γ E o)) (ha : PE X a (tM Γ E ma)) (hb : PE X b (tM Γ E mb)) (hm : behindInMarks op b = false) :
    PT X (.Compare a [op] [b] pos) (tB' Γ E (asB (m2 o ma mb))) := PTw' (pt_cmpR ho ha hb hm) fun σ H Q q => by
  have h := asB_of q
  exact tOp_of h
@[simp] def mNot (m : Env' → M Bool) : Env' → M Bool := fun env => bnd (m env) fun b => ret (!b)
theorem t_not {e : Expr} {m : Env' → M Bool} {pos : Pos} (h : PT X e (tB' Γ E m)) : PT X (.UnaryOp .Not e pos) (tB' Γ E (mNot m)) := PTw' (pt_not h) fun σ H Q q =>
  At.bnd (f := fun b _ => ret (!b)) q fun b st G H1 ok ⟨env, re, p⟩ => p.now ok
@[simp] def mAnd (a b : Env' → M Bool) : Env' → M Bool := fun env => bnd (a env) fun c => if c then b env else ret false
@[simp] def mOr (a b : Env' → M Bool) : Env' → M Bool := fun env => bnd (a env) fun c => if c then ret true else b env
theorem w_and1 {a : Expr} {m : Env' → M Bool} {pos : Pos} (h : PT X a (tB' Γ E m)) : PW X (.BoolOp .And [a] pos) (tB' Γ E m) := pw_and1 h
theorem w_or1 {a : Expr} {m : Env' → M Bool} {pos : Pos} (h : PT X a (tB' Γ E m)) : PW X (.BoolOp .Or [a] pos) (tB' Γ E m) := pw_or1 h
theorem w_and {a b : Expr} {rest : List Expr} {m n : Env' → M Bool} {pos : Pos} (ha : PT X a (tB' Γ E m)) (hb : PW X (.BoolOp .And (b :: rest) pos) (tB' Γ E n)) : PW X (.BoolOp .And (a :: b :: rest) pos) (tB' Γ E (mAnd m n)) :=
  PWw (pw_and ha hb) fun σ H Q q => At.bnd (f := fun c env => if c = true then n env else ret false) q fun c st G H1 ok ⟨env, re, p⟩ => by
    cases c with
    | true => exact ⟨G, env, st, ok, re, p⟩
    | false => exact p.now ok
theorem w_or {a b : Expr} {rest : List Expr} {m n : Env' → M Bool} {pos : Pos} (ha : PT X a (tB' Γ E m)) (hb : PW X (.BoolOp .Or (b :: rest) pos) (tB' Γ E n)) : PW X (.BoolOp .Or (a :: b :: rest) pos) (tB' Γ E (mOr m n)) :=
  PWw (pw_or ha hb) fun σ H Q q => At.bnd (f := fun c env => if c = true then ret true else n env) q fun c st G H1 ok ⟨env, re, p⟩ => by
    cases c with
    | true => exact p.now ok
    | false => exact ⟨G, env, st, ok, re, p⟩
/-- a test as a value -/
@[simp] def bV (m : Env' → M Bool) : Env' → M Wv := fun env => bnd (m env) fun b => ret (.d (.bl b))
/-- and, or, not as values, all bools -/
@[simp] def mAndV (a b : Env' → M Wv) : Env' → M Wv := fun env => bnd (a env) fun x => bnd (blD x) fun c => if c then b env else ret (.d (.bl false))
@[simp] def mOrV (a b : Env' → M Wv) : Env' → M Wv := fun env => bnd (a env) fun x => bnd (blD x) fun c => if c then ret (.d (.bl true)) else b env
@[simp] def mNotV (a : Env' → M Wv) : Env' → M Wv := fun env => bnd (a env) fun x => bnd (blD x) fun c => ret (.d (.bl (!c)))
theorem e_one {op} {a : Expr} {m : Env' → M Wv} {pos : Pos} (h : PE X a (tM Γ E m)) : PE X (.BoolOp op [a] pos) (tM Γ E m) := pe_one h
theorem e_and {a b : Expr} {rest : List Expr} {m n : Env' → M Wv} {pos : Pos} (ha : PE X a (tM Γ E m)) (hb : PE X (.BoolOp .And (b :: rest) pos) (tM Γ E n)) : PE X (.BoolOp .And (a :: b :: rest) pos) (tM Γ E (mAndV m n)) :=
  PEw (pe_and ha hb) fun σ H Q q => At.bnd (f := fun x env => bnd (blD x) fun c => if c = true then n env else ret (.d (.bl false))) q fun w st G H1 ok ⟨env, re, p⟩ v rv => by
    obtain ⟨c, rfl, p⟩ := blD_inv rv p
    refine ⟨c, rfl, ?_⟩
    cases c with
    | true => exact ⟨G, env, st, ok, re, p⟩
    | false => exact p.fin ok (.bl _)
theorem e_or {a b : Expr} {rest : List Expr} {m n : Env' → M Wv} {pos : Pos} (ha : PE X a (tM Γ E m)) (hb : PE X (.BoolOp .Or (b :: rest) pos) (tM Γ E n)) : PE X (.BoolOp .Or (a :: b :: rest) pos) (tM Γ E (mOrV m n)) :=
  PEw (pe_or ha hb) fun σ H Q q => At.bnd (f := fun x env => bnd (blD x) fun c => if c = true then (ret (.d (.bl true)) : M Wv) else n env) q fun w st G H1 ok ⟨env, re, p⟩ v rv => by
    obtain ⟨c, rfl, p⟩ := blD_inv rv p
    refine ⟨c, rfl, ?_⟩
    cases c with
    | true => exact p.fin ok (.bl _)
    | false => exact ⟨G, env, st, ok, re, p⟩
theorem e_not {a : Expr} {m : Env' → M Wv} {pos : Pos} (ha : PE X a (tM Γ E m)) : PE X (.UnaryOp .Not a pos) (tM Γ E (mNotV m)) :=
  PEw (pe_not ha) fun σ H Q q => At.bnd (f := fun x env => bnd (blD x) fun c => (ret (.d (.bl (!c))) : M Wv)) q fun w st G H1 ok ⟨env, re, p⟩ v rv => by
    obtain ⟨c, rfl, p⟩ := blD_inv rv p
    exact ⟨c, rfl, p.fin ok (.bl _)⟩
@[simp] def mIf (c : Env' → M Bool) (a b : Env' → M Wv) : Env' → M Wv := fun env => bnd (c env) fun c => if c then a env else b env
theorem e_if {c a b : Expr} {mc : Env' → M Bool} {ma mb : Env' → M Wv} {pos : Pos} (hc : PT X c (tB' Γ E mc)) (ha : PE X a (tM Γ E ma)) (hb : PE X b (tM Γ E mb)) : PE X (.IfExp c a b pos) (tM Γ E (mIf mc ma mb)) :=
  PEw (pe_ifExp hc ha hb) fun σ H Q q => At.bnd (f := fun c env => if c = true then ma env else mb env) q fun c st G H1 ok ⟨env, re, p⟩ => by
    cases c with
    | true => exact ⟨G, env, st, ok, re, p⟩
    | false => exact ⟨G, env, st, ok, re, p⟩
/-- a op b op' c -/
@[simp] def mChain (o o' : Wv → Wv → M Wv) (a b c : Env' → M Wv) : Env' → M Wv := fun env => bnd (a env) fun x => bnd (b env) fun y => bnd (o x y) fun z => bnd (blD z) fun k => if k then bnd (c env) fun u => o' y u else ret (.d (.bl false))
theorem chain_of {o o' : Wv → Wv → M Wv} {ma mb mc : Env' → M Wv} {σ : L2.St} {H : Hp} {Q : VK} (h : tM Γ E (mChain o o' ma mb mc) σ H Q) : tChain (rM Γ E o) (rM Γ E o') (tM Γ E ma) (tM Γ E mb) (tM Γ E mc) σ H Q := by
  refine At.bnd h fun w st G H1 ok ⟨env, re, p⟩ x rx => ?_
  refine ⟨G, env, st, ok, re, p.bnd.imp fun u st2 G2 H2 s2 ok2 p y ry => ?_⟩
  refine ⟨G2, st2, w, u, ok2, s2.val rx, ry, p.bnd.imp fun z st3 G3 H3 s3 ok3 p v rv => ?_⟩
  obtain ⟨k, rfl, p⟩ := blD_inv rv p
  refine ⟨k, rfl, ?_⟩
  cases k with
  | false => exact p.fin ok3 (.bl _)
  | true =>
    refine ⟨G3, env, st3, ok3, (re.step s2).step s3, (show Post Γ E G3 H3 (bnd (mc env) (fun u_1 => o' u u_1) st3) _ from p).bnd.imp fun u' st4 G4 H4 s4 ok4 p y' ry' => ?_⟩
    exact ⟨G4, st4, u, u', ok4, s4.val (s3.val ry), ry', p⟩
theorem e_chain {a b c : Expr} {op op' : CmpOp} {o o' : Wv → Wv → M Wv} {ma mb mc : Env' → M Wv} {pos : Pos} (ho : OpR X (compareOp op) (rM Γ E o)) (ho' : OpR X (compareOp op') (rM Γ E o')) (ha : PE X a (tM Γ E ma)) (hb : PE X b (tM Γ E mb)) (hc : PE X c (tM Γ E mc))
    (hm : lastMarks [op, op'] [b, c] = false := by with_unfolding_all rfl) : PE X (.Compare a [op, op'] [b, c] pos) (tM Γ E (mChain o o' ma mb mc)) := PEw (pe_chain ho ho' ha hb hc hm) fun σ H Q q => chain_of q
theorem t_chain {a b c : Expr} {op op' : CmpOp} {o o' : Wv → Wv → M Wv} {ma mb mc : Env' → M Wv} {pos : Pos} (ho : OpR X (compareOp op) (rM Γ E o)) (ho' : OpR X (compareOp op') (rM Γ E o')) (ha : PE X a (tM Γ E ma)) (hb : PE X b (tM Γ E mb)) (hc : PE X c (tM Γ E mc))
    (hm : lastMarks [op, op'] [b, c] = false := by with_unfolding_all rfl) : PT X (.Compare a [op, op'] [b, c] pos) (tB' Γ E (asB (mChain o o' ma mb mc))) := PTw' (pt_chain ho ho' ha hb hc hm) fun σ H Q q => chain_of (asB_of q)
/-- the right side is the constant None -/
@[simp] def m1 (o : Wv → M Wv) (a : Env' → M Wv) : Env' → M Wv := fun env => bnd (a env) o
@[simp] def isN : Wv → M Wv
  | .d .non => ret (.d (.bl true))
  | _ => ret (.d (.bl false))
@[simp] def notN : Wv → M Wv
  | .d .non => ret (.d (.bl false))
  | _ => ret (.d (.bl true))
theorem isN_cases {G : Gh} {H : Hp} {w : Wv} {v : V} (r : RepW Γ G H w v) : (v = .non ∧ isN w = ret (.d (.bl true)) ∧ notN w = ret (.d (.bl false))) ∨ (v ≠ .non ∧ isN w = ret (.d (.bl false)) ∧ notN w = ret (.d (.bl true))) := by
  cases w with
  | r n => obtain ⟨a, _, rfl⟩ := r; exact .inr ⟨by simp, rfl, rfl⟩
  | d x =>
    cases r with
    | non => exact .inl ⟨rfl, rfl, rfl⟩
    | _ => exact .inr ⟨by simp, rfl, rfl⟩
theorem isN_of {m : Env' → M Wv} {σ : L2.St} {H : Hp} {Q : VK} (h : tM Γ E (m1 isN m) σ H Q) : tIsN (tM Γ E m) σ H Q := by
  refine At.bnd (f := fun x _ => isN x) h fun w st G H1 ok ⟨env, re, p⟩ v rv => ?_
  rcases isN_cases rv with ⟨e, h1, _⟩ | ⟨e, h1, _⟩
  · rw [h1] at p; rw [decide_eq_true e]; exact p.fin ok (.bl _)
  · rw [h1] at p; rw [decide_eq_false e]; exact p.fin ok (.bl _)
theorem notN_of {m : Env' → M Wv} {σ : L2.St} {H : Hp} {Q : VK} (h : tM Γ E (m1 notN m) σ H Q) : tNotN (tM Γ E m) σ H Q := by
  refine At.bnd (f := fun x _ => notN x) h fun w st G H1 ok ⟨env, re, p⟩ v rv => ?_
  rcases isN_cases rv with ⟨e, _, h1⟩ | ⟨e, _, h1⟩
  · rw [h1] at p; rw [decide_eq_true e]; exact p.fin ok (.bl _)
  · rw [h1] at p; rw [decide_eq_false e]; exact p.fin ok (.bl _)
theorem e_isN {a : Expr} {m : Env' → M Wv} {j pos pos'} (ha : PE X a (tM Γ E m)) : PE X (.Compare a [.Is] [.Constant .none j pos'] pos) (tM Γ E (m1 isN m)) := PEw (pe_cmp (pc_isN ha) rfl) fun σ H Q h => isN_of h
theorem e_notN {a : Expr} {m : Env' → M Wv} {j pos pos'} (ha : PE X a (tM Γ E m)) : PE X (.Compare a [.IsNot] [.Constant .none j pos'] pos) (tM Γ E (m1 notN m)) := PEw (pe_cmp (pc_notN ha) rfl) fun σ H Q h => notN_of h
theorem t_isN {a : Expr} {m : Env' → M Wv} {j pos pos'} (ha : PE X a (tM Γ E m)) : PT X (.Compare a [.Is] [.Constant .none j pos'] pos) (tB' Γ E (asB (m1 isN m))) := PTw' (pt_cmp (pc_isN ha) rfl) fun σ H Q h => isN_of (asB_of h)
theorem t_notN {a : Expr} {m : Env' → M Wv} {j pos pos'} (ha : PE X a (tM Γ E m)) : PT X (.Compare a [.IsNot] [.Constant .none j pos'] pos) (tB' Γ E (asB (m1 notN m))) := PTw' (pt_cmp (pc_notN ha) rfl) fun σ H Q h => notN_of (asB_of h)
/-- a value's truth -/
@[simp] def truD : Wv → M Bool
  | .d .non => ret false
  | .d (.bl b) => ret b
  | .d (.int i) => ret (i != 0)
  | .d (.str s) => if s.length ≤ 1000000 then ret (s.length != 0) else bad
  | w => bnd (seqD w) fun l => ret (!l.isEmpty)
theorem RepL.empty {S : Addr → Prop} {H : Hp} {ds : List Py} {xs : List V} (h : RepL Γ S H ds xs) : xs.isEmpty = ds.isEmpty := by cases h <;> rfl
theorem tru_of {G : Gh} {H : Hp} {st : Store} {w : Wv} {v : V} {Q : Bool → Hp → Prop} (ok : GOk Γ G H st) (r : RepW Γ G H w v) (p : Post Γ E G H (truD w st) fun b st' G' H' => Q b H') : ∃ k, TruV X.K v H k ∧ Q k H := by
  have sq : (Post Γ E G H (bnd (seqD w) (fun l => ret (!l.isEmpty)) st) fun b st' G' H' => Q b H') → ∃ k, TruV X.K v H k ∧ Q k H := fun p => by
    obtain ⟨ds, a, xs, rfl, h1, h2, p⟩ := seqD_inv ok r p
    refine ⟨!ds.isEmpty, ?_, p.now ok⟩
    rcases h1 with h1 | h1
    · exact .inl ⟨xs, Rd.sql h1, by rw [h2.empty]⟩
    · exact .inr (.inl ⟨xs, .of h1, by rw [h2.empty]⟩)
  cases w with
  | r n => exact sq p
  | d x =>
    cases x with
    | non => cases r; exact ⟨false, rfl, p.now ok⟩
    | bl b => cases r; exact ⟨b, rfl, p.now ok⟩
    | int i => cases r; exact ⟨_, rfl, p.now ok⟩
    | str s =>
      cases r
      obtain ⟨h, p⟩ := Post.iff p
      refine ⟨_, ⟨sz h, rfl⟩, ?_⟩
      have q := p.now ok
      have e : ((s.length : Int) != 0) = (s.length != 0) := by
        rw [Bool.eq_iff_iff]
        simp
      rw [e]
      exact q
    | tup l => exact sq p
    | lst l => exact sq p
    | obj c fs => exact sq p
@[simp] def truT (m : Env' → M Wv) : Env' → M Bool := fun env => bnd (m env) truD
theorem t_tru {e : Expr} {m : Env' → M Wv} (h : PE X e (tM Γ E m)) (he : ∀ whole, isTrue e X.env whole = (do let v ← whole; standAt e.pos; holding [v] (truthy v)) := by intro _; rfl) : PT X e (tB' Γ E (truT m)) :=
  PTw' (pt_truth h he) fun σ H Q q => At.bnd (f := fun x _ => truD x) q fun w st G H1 ok ⟨env, re, p⟩ v rv => tru_of ok rv p

/-! ### subscripts -/
@[simp] def opt {α : Type} : Option α → M α
  | some a => ret a
  | none => bad
def oIx (w u : Wv) : M Wv := bnd (intD u) fun i => match w with
  | .d (.str s) => if s.length ≤ 1000000 then bnd (opt (atI s.cps.toList i)) fun c => ret (.d (.str ⟨#[c]⟩)) else bad
  | .d (.lst l) => bnd (opt (atI l i)) fun x => ret (.d x)
  | .d (.tup l) => bnd (opt (atI l i)) fun x => ret (.d x)
  | .r n => fun st => match st[n]? with
    | some (.lst ws) => bnd (opt (atI ws i)) ret st
    | _ => .bad
  | _ => bad
theorem opt_inv {α β : Type} {o : Option α} {f : α → M β} {G : Gh} {H : Hp} {st : Store} {K : β → Store → Gh → Hp → Prop} (p : Post Γ E G H (bnd (opt o) f st) K) : ∃ a, o = some a ∧ Post Γ E G H (f a st) K := by
  cases o with
  | none => exact p.elim
  | some a => exact ⟨a, rfl, p⟩
theorem RepL.atI {S : Addr → Prop} {H : Hp} {ds : List Py} {xs : List V} {i : Int} {d : Py} (h : RepL Γ S H ds xs) (e : atI ds i = some d) : ∃ v, L2.atI xs i = some v ∧ Rep Γ S H d v := by
  unfold L2.atI at e ⊢
  rw [← h.length]
  obtain ⟨j, h1, h2⟩ := Option.bind_eq_some_iff.mp e
  obtain ⟨v, h3, h4⟩ := h.get h2
  exact ⟨v, by rw [h1]; exact h3, h4⟩
theorem paired_get' {α β : Type} {F : α → β → Prop} : ∀ {xs : List α} {ys : List β} {i : Nat} {x : α}, Paired F xs ys → xs[i]? = some x → ∃ y, ys[i]? = some y ∧ F x y
  | _, _, _, _, .nil, e => by simp at e
  | _, _, 0, _, .cons r _, e => ⟨_, rfl, by simp at e; subst e; exact r⟩
  | _, _, i + 1, _, .cons _ t, e => by
    obtain ⟨v, h1, h2⟩ := paired_get' (i := i) t (by simpa using e)
    exact ⟨v, by simpa using h1, h2⟩
theorem RepWL.atI {G : Gh} {H : Hp} {ds : List Wv} {xs : List V} {i : Int} {d : Wv} (h : RepWL Γ G H ds xs) (e : atI ds i = some d) : ∃ v, L2.atI xs i = some v ∧ RepW Γ G H d v := by
  unfold L2.atI at e ⊢
  rw [← Paired.length h]
  obtain ⟨j, h1, h2⟩ := Option.bind_eq_some_iff.mp e
  obtain ⟨v, h3, h4⟩ := paired_get' h h2
  exact ⟨v, by rw [h1]; exact h3, h4⟩
theorem IxRw {r r' : R2} (h : IxR X r) (w : ∀ x y H Q, r' x y H Q → r x y H Q) : IxR X r' := fun value slice pins s σ H x y v u Q I rx ry q hs => h value slice pins s σ H x y v u Q I rx ry (w x y H Q q) hs
theorem ix_data : IxR X (rM Γ E oIx) := IxRw (ix_list.or (ix_tup.or ix_str)) fun x y H Q q => by
  obtain ⟨G, st, w, u, ok, rw', ru, p⟩ := q
  obtain ⟨i, rfl, p⟩ := intD_inv ru p
  cases w with
  | r n =>
    obtain ⟨a, e, rfl⟩ := rw'
    cases h : st[n]? with
    | none => simp only [h] at p; exact p.elim
    | some c =>
      cases c with
      | lst ws =>
        simp only [h] at p
        obtain ⟨xs, _, h2, h3⟩ := cell_lst ok e h
        obtain ⟨z, e2, p⟩ := opt_inv p
        obtain ⟨v, e3, r⟩ := h3.atI e2
        exact .inl ⟨a, xs, i, v, rfl, rfl, .of h2, e3, p.fin ok r⟩
      | _ => simp only [h] at p; exact p.elim
  | d d =>
    cases d with
    | str s =>
      cases rw'
      obtain ⟨h, p⟩ := Post.iff p
      obtain ⟨c, e2, p⟩ := opt_inv p
      exact .inr (.inr ⟨s, i, c, rfl, rfl, sz h, e2, p.fin ok (.str _)⟩)
    | lst l =>
      cases rw' with
      | lst s h t =>
        obtain ⟨z, e2, p⟩ := opt_inv p
        obtain ⟨v, e3, r⟩ := t.atI e2
        exact .inl ⟨_, _, i, v, rfl, rfl, Rd.sql h, e3, p.fin ok r⟩
    | tup l =>
      cases rw' with
      | tup s h t =>
        obtain ⟨z, e2, p⟩ := opt_inv p
        obtain ⟨v, e3, r⟩ := t.atI e2
        exact .inr (.inl ⟨_, _, i, v, rfl, rfl, .of h, e3, p.fin ok r⟩)
    | _ => exact p.elim
theorem e_ix {a b : Expr} {ma mb : Env' → M Wv} {pos : Pos} (ha : PE X a (tM Γ E ma)) (hb : PE X b (tM Γ E mb)) (hs : PlainIx b := by exact fun _ _ => rfl) : PE X (.Subscript a b pos) (tM Γ E (m2 oIx ma mb)) :=
  PEw (pe_ix ix_data ha hb hs) fun σ H Q h => tOp_of h
end
end Bj

set_option Elab.async false
set_option linter.all false
set_option maxRecDepth 100000
set_option maxHeartbeats 1000000
/-! The mirror layer, part E: built-ins by name, isinstance, methods of built-in types. -/
namespace Bj
open PySem PySem.Spec PyProof.Rows L2
section
variable {Γ : Gam} {E : XK} {X : Cx}

/-! ### built-ins by name -/
theorem tCB_of {o : List Wv → M Wv} {a : Env' → M (List Wv)} {σ : L2.St} {H : Hp} {Q : VK} (h : tM Γ E (mL o a) σ H Q) : tCB (cM Γ E o) (aM Γ E a) σ H Q :=
  At.bnd (f := fun x _ => o x) h fun ws st G H1 ok ⟨env, re, p⟩ vs rvs => ⟨G, st, ws, ok, rvs, p⟩
theorem e_callB {id : String} {o : List Wv → M Wv} {x : Str} {p pos : Pos} {e : Expr} {es : List Expr} {a : Env' → M (List Wv)} (hc : CallR X (.builtin id) (cM Γ E o)) (hm : X.mg x = none) (ha : PA X (e :: es) (aM Γ E a))
    (hv : bootBuiltins x = some (.builtin id) := by decide +kernel) (hg : Gl X x := by rfl) (hn : x ≠ "__name__" := by decide) (hdb : (x == ("__debug__" : Str)) = false := by decide)
    (he : starEach (e :: es) X.env = (false, eval e X.env) :: starEach es X.env := by rfl) (hpl : (backTo pos (starEach es X.env)).any (·.1) = false := by rfl) : PE X (.Call (.Name x p) (e :: es) [] pos) (tM Γ E (mL o a)) :=
  PEw (pe_callB hc hg hm hv ha hn hdb he hpl) fun σ H Q h => tCB_of h
theorem e_callT {id : String} {o : List Wv → M Wv} {x : Str} {p pos : Pos} {e : Expr} {es : List Expr} {a : Env' → M (List Wv)} (hc : CallR X (.type id) (cM Γ E o)) (hm : X.mg x = none) (ha : PA X (e :: es) (aM Γ E a))
    (hv : bootBuiltins x = some (.type id) := by decide +kernel) (hg : Gl X x := by rfl) (hn : x ≠ "__name__" := by decide) (hdb : (x == ("__debug__" : Str)) = false := by decide)
    (he : starEach (e :: es) X.env = (false, eval e X.env) :: starEach es X.env := by rfl) (hpl : (backTo pos (starEach es X.env)).any (·.1) = false := by rfl) : PE X (.Call (.Name x p) (e :: es) [] pos) (tM Γ E (mL o a)) :=
  PEw (pe_callTy hc hg hm hv ha hn hdb he hpl) fun σ H Q h => tCB_of h
/-- a rule on one argument, from the layer's -/
theorem call1 {f : Value} {r : List V → Hp → VK → Prop} {o : Wv → M Wv} (h : CallR X f r)
    (k : ∀ (G : Gh) (H : Hp) (st : Store) (w : Wv) (v : V) (Q : VK), GOk Γ G H st → RepW Γ G H w v → Post Γ E G H (o w st) (fun z st' G' H' => ∀ v, RepW Γ G' H' z v → Q v H') → r [v] H Q) :
    CallR X f (cM Γ E fun ws => match ws with | [w] => o w | _ => bad) := CallRw h fun vs H Q q => by
  obtain ⟨G, st, ws, ok, r, p⟩ := q
  cases r with
  | nil => exact p.elim
  | cons r1 t =>
    cases t with
    | nil => exact k G H st _ _ Q ok r1 p
    | cons _ _ => exact p.elim
theorem call2 {f : Value} {r : List V → Hp → VK → Prop} {o : Wv → Wv → M Wv} (h : CallR X f r)
    (k : ∀ (G : Gh) (H : Hp) (st : Store) (w u : Wv) (v x : V) (Q : VK), GOk Γ G H st → RepW Γ G H w v → RepW Γ G H u x → Post Γ E G H (o w u st) (fun z st' G' H' => ∀ v, RepW Γ G' H' z v → Q v H') → r [v, x] H Q) :
    CallR X f (cM Γ E fun ws => match ws with | [w, u] => o w u | _ => bad) := CallRw h fun vs H Q q => by
  obtain ⟨G, st, ws, ok, r, p⟩ := q
  cases r with
  | nil => exact p.elim
  | cons r1 t =>
    cases t with
    | nil => exact p.elim
    | cons r2 t =>
      cases t with
      | nil => exact k G H st _ _ _ _ Q ok r1 r2 p
      | cons _ _ => exact p.elim
def f1 (o : Wv → M Wv) : List Wv → M Wv := fun ws => match ws with | [w] => o w | _ => bad
def f2 (o : Wv → Wv → M Wv) : List Wv → M Wv := fun ws => match ws with | [w, u] => o w u | _ => bad

def oLen (w : Wv) : M Wv := match w with
  | .d (.str s) => if s.length ≤ 1000000 then ret (.d (.int s.length)) else bad
  | w => bnd (seqD w) fun l => ret (.d (.int l.length))
theorem c_len : CallR X (.builtin "len") (cM Γ E (f1 oLen)) := call1 (L2.CallR.or call_len_str call_len_seq) fun G H st w v Q ok r p => by
  by_cases hw : ∃ s, w = .d (.str s)
  · obtain ⟨s, rfl⟩ := hw
    cases r
    obtain ⟨h, p⟩ := Post.iff (c := s.length ≤ 1000000) p
    exact .inl ⟨s, rfl, sz h, p.fin ok (.int _)⟩
  · have e : oLen w = bnd (seqD w) fun l => ret (.d (.int l.length)) := by
      unfold oLen
      cases w with
      | r n => rfl
      | d x => cases x <;> first | rfl | exact absurd ⟨_, rfl⟩ hw
    rw [e] at p
    obtain ⟨ds, a, xs, rfl, h1, h2, p⟩ := seqD_inv ok r p
    refine .inr ⟨a, xs, rfl, h1.elim (fun h => .inl (Rd.sql h)) (fun h => .inr (.of h)), ?_⟩
    rw [← h2.length]
    exact p.fin ok (.int _)
def oMax2 (w u : Wv) : M Wv := bnd (intD w) fun i => bnd (intD u) fun j => ret (.d (.int (if j > i then j else i)))
def oMin2 (w u : Wv) : M Wv := bnd (intD w) fun i => bnd (intD u) fun j => ret (.d (.int (if j < i then j else i)))
theorem c_max2 (hc : X.calm = true) : CallR X (.builtin "max") (cM Γ E (f2 oMax2)) := call2 (call_max2 hc) fun G H st w u v x Q ok r1 r2 p => by
  obtain ⟨i, rfl, p⟩ := intD_inv r1 p
  obtain ⟨j, rfl, p⟩ := intD_inv r2 p
  exact ⟨i, j, rfl, p.fin ok (.int _)⟩
theorem c_min2 (hc : X.calm = true) : CallR X (.builtin "min") (cM Γ E (f2 oMin2)) := call2 (call_min2 hc) fun G H st w u v x Q ok r1 r2 p => by
  obtain ⟨i, rfl, p⟩ := intD_inv r1 p
  obtain ⟨j, rfl, p⟩ := intD_inv r2 p
  exact ⟨i, j, rfl, p.fin ok (.int _)⟩
def oStr (w : Wv) : M Wv := bnd (intD w) fun i => if -big < i ∧ i < big then ret (.d (.str (Str.ofString (toString i)))) else bad
theorem big_log {i : Int} (h : i.natAbs < 2 ^ 400) : i.natAbs.log2 < 1920 := Nat.lt_of_lt_of_le (PySem.Flt.log2_lt_of (by decide) h) (by decide)
theorem c_str : CallR X (.type "str") (cM Γ E (f1 oStr)) := call1 call_str_int fun G H st w v Q ok r p => by
  obtain ⟨i, rfl, p⟩ := intD_inv r p
  obtain ⟨⟨h1, h2⟩, p⟩ := p.iff
  exact ⟨i, rfl, big_log (big_lt h1 h2), p.fin ok (.str _)⟩
def oInt (w : Wv) : M Wv := match w with
  | .d (.int i) => ret (.d (.int i))
  | .d (.bl k) => ret (.d (.int (if k then 1 else 0)))
  | .d (.str s) => if s.length ≤ 640 then bnd (opt (PySem.intText? s)) fun n => ret (.d (.int n)) else bad
  | _ => bad
theorem c_int : CallR X (.type "int") (cM Γ E (f1 oInt)) := call1 (L2.CallR.or call_int1 call_int_str) fun G H st w v Q ok r p => by
  cases w with
  | r n => exact p.elim
  | d x =>
    cases x with
    | int i => cases r; exact .inl (.inl ⟨i, rfl, p.fin ok (.int _)⟩)
    | bl k => cases r; exact .inl (.inr ⟨k, rfl, p.fin ok (.int _)⟩)
    | str s =>
      cases r
      obtain ⟨h, p⟩ := Post.iff (c := s.length ≤ 640) p
      obtain ⟨n, e, p⟩ := opt_inv p
      exact .inr ⟨s, n, rfl, e, h, p.fin ok (.int _)⟩
    | _ => exact p.elim
@[simp] def oList (w : Wv) : M Wv := bnd (seqD w) fun l => ret (.d (.lst l))
theorem c_list : CallR X (.type "list") (cM Γ E (f1 oList)) := call1 call_list_of fun G H st w v Q ok r p => by
  obtain ⟨ds, a, xs, rfl, h1, h2, p⟩ := seqD_inv ok r p
  refine ⟨a, xs, rfl, h1.elim (fun h => .inl (Rd.sql h)) (fun h => .inr (.of h)), fun p1 hp => ?_⟩
  obtain ⟨G', s, ok', rr, q⟩ := mk_lst ok h2 p hp
  exact q _ rr
@[simp] def oTuple (w : Wv) : M Wv := bnd (seqD w) fun l => ret (.d (.tup l))
theorem c_tuple : CallR X (.type "tuple") (cM Γ E (f1 oTuple)) := call1 call_tuple_of fun G H st w v Q ok r p => by
  by_cases hw : ∃ l, w = .d (.tup l)
  · obtain ⟨l, rfl⟩ := hw
    cases r with
    | tup s h t => exact ⟨_, _, rfl, .inr ⟨.of h, Post.fin ok p (.tup s h t)⟩⟩
  · have e : seqD w = lstD w := by
      cases w with
      | d x => cases x <;> first | rfl | exact absurd ⟨_, rfl⟩ hw
      | r n => rfl
    unfold oTuple at p
    rw [e] at p
    obtain ⟨ds, a, xs, rfl, h1, h2, p⟩ := lstD_inv ok r p
    refine ⟨a, xs, rfl, .inl ⟨Rd.sql h1, fun p1 hp => ?_⟩⟩
    obtain ⟨G', s, ok', rr, q⟩ := mk_tup ok h2 p hp
    exact q _ rr
def intsP : List Py → Option (List Int)
  | [] => some []
  | .int i :: r => (intsP r).map (i :: ·)
  | _ => none
def boolsP : List Py → Option (List Bool)
  | [] => some []
  | .bl i :: r => (boolsP r).map (i :: ·)
  | _ => none
def strsP : List Py → Option (List Str)
  | [] => some []
  | .str i :: r => (strsP r).map (i :: ·)
  | _ => none
@[simp] theorem ints_map (l : List Int) : intsP (l.map .int) = some l := by induction l with | nil => rfl | cons d ds ih => simp [intsP, ih]
@[simp] theorem bools_map (l : List Bool) : boolsP (l.map .bl) = some l := by induction l with | nil => rfl | cons d ds ih => simp [boolsP, ih]
@[simp] theorem strs_map (l : List Str) : strsP (l.map .str) = some l := by induction l with | nil => rfl | cons d ds ih => simp [strsP, ih]
theorem ints_rep {S : Addr → Prop} {H : Hp} : ∀ {ds : List Py} {xs : List V} {l : List Int}, RepL Γ S H ds xs → intsP ds = some l → xs = l.map V.int
  | _, _, _, .nil, e => by cases e; rfl
  | _, _, _, .cons r t, e => by
    cases r with
    | int i =>
      obtain ⟨l', h1, rfl⟩ := Option.map_eq_some_iff.mp e
      rw [ints_rep t h1]
      rfl
    | _ => cases e
theorem bools_rep {S : Addr → Prop} {H : Hp} : ∀ {ds : List Py} {xs : List V} {l : List Bool}, RepL Γ S H ds xs → boolsP ds = some l → xs = l.map V.bl
  | _, _, _, .nil, e => by cases e; rfl
  | _, _, _, .cons r t, e => by
    cases r with
    | bl i =>
      obtain ⟨l', h1, rfl⟩ := Option.map_eq_some_iff.mp e
      rw [bools_rep t h1]
      rfl
    | _ => cases e
theorem strs_rep {S : Addr → Prop} {H : Hp} : ∀ {ds : List Py} {xs : List V} {l : List Str}, RepL Γ S H ds xs → strsP ds = some l → xs = l.map V.str
  | _, _, _, .nil, e => by cases e; rfl
  | _, _, _, .cons r t, e => by
    cases r with
    | str i =>
      obtain ⟨l', h1, rfl⟩ := Option.map_eq_some_iff.mp e
      rw [strs_rep t h1]
      rfl
    | _ => cases e
theorem RepL.ofInts {S : Addr → Prop} {H : Hp} : ∀ (l : List Int), RepL Γ S H (l.map .int) (l.map V.int)
  | [] => .nil
  | i :: l => .cons (.int i) (RepL.ofInts l)
theorem RepL.ofStrs {S : Addr → Prop} {H : Hp} : ∀ (l : List Str), RepL Γ S H (l.map .str) (l.map V.str)
  | [] => .nil
  | i :: l => .cons (.str i) (RepL.ofStrs l)
@[simp] def oAll (w : Wv) : M Wv := bnd (lstD w) fun l => bnd (opt (boolsP l)) fun bs => ret (.d (.bl (bs.all id)))
theorem c_all (hc : X.calm = true) : CallR X (.builtin "all") (cM Γ E (f1 oAll)) := call1 (cr_all hc) fun G H st w v Q ok r p => by
  obtain ⟨ds, a, xs, rfl, h1, h2, p⟩ := lstD_inv ok r p
  obtain ⟨bs, e, p⟩ := opt_inv p
  have := bools_rep h2 e
  subst this
  exact ⟨a, bs, rfl, Rd.sql h1, p.fin ok (.bl _)⟩
@[simp] def oSumL (w : Wv) : M Wv := bnd (lstD w) fun l => bnd (opt (intsP l)) fun bs => ret (.d (.int bs.sum))
theorem c_sumL (hc : X.calm = true) : CallR X (.builtin "sum") (cM Γ E (f1 oSumL)) := call1 (cr_sum hc) fun G H st w v Q ok r p => by
  obtain ⟨ds, a, xs, rfl, h1, h2, p⟩ := lstD_inv ok r p
  obtain ⟨bs, e, p⟩ := opt_inv p
  have := ints_rep h2 e
  subst this
  exact ⟨a, bs, rfl, Rd.sql h1, p.fin ok (.int _)⟩
def insI (x : Int) : List Int → List Int
  | [] => [x]
  | y :: ys => if x ≤ y then x :: y :: ys else y :: insI x ys
def sortI : List Int → List Int
  | [] => []
  | x :: xs => insI x (sortI xs)
theorem insI_perm (x : Int) : ∀ l, (insI x l).Perm (x :: l)
  | [] => .refl _
  | y :: ys => by
    unfold insI
    split
    · exact .refl _
    · exact ((insI_perm x ys).cons y).trans (.swap x y ys)
theorem insI_srt (x : Int) : ∀ l, l.Pairwise (· ≤ ·) → (insI x l).Pairwise (· ≤ ·)
  | [], _ => by simp [insI]
  | y :: ys, h => by
    unfold insI
    split
    · rename_i hxy
      refine List.pairwise_cons.mpr ⟨fun z hz => ?_, h⟩
      rcases List.mem_cons.mp hz with rfl | hz
      · exact hxy
      · exact Int.le_trans hxy ((List.pairwise_cons.mp h).1 z hz)
    · rename_i hxy
      have hyx : y ≤ x := by omega
      refine List.pairwise_cons.mpr ⟨fun z hz => ?_, insI_srt x ys (List.pairwise_cons.mp h).2⟩
      rcases List.mem_cons.mp ((insI_perm x ys).mem_iff.mp hz) with rfl | hz
      · exact hyx
      · exact (List.pairwise_cons.mp h).1 z hz
theorem sortI_perm : ∀ l, (sortI l).Perm l
  | [] => .refl _
  | x :: xs => (insI_perm x _).trans ((sortI_perm xs).cons x)
theorem sortI_srt : ∀ l, (sortI l).Pairwise (· ≤ ·)
  | [] => .nil
  | x :: xs => insI_srt x _ (sortI_srt xs)
theorem sortI_uniq {a l : List Int} (hp : a.Perm l) (hs : a.Pairwise (· ≤ ·)) : a = sortI l := PySem.W.ksm_same (hp.trans (sortI_perm l).symm) hs (sortI_srt l)
@[simp] def oSortI (w : Wv) : M Wv := bnd (lstD w) fun l => bnd (opt (intsP l)) fun bs => ret (.d (.lst ((sortI bs).map .int)))
theorem c_sortI : CallR X (.builtin "sorted") (cM Γ E (f1 oSortI)) := call1 cr_sortedI fun G H st w v Q ok r p => by
  obtain ⟨ds, a, xs, rfl, h1, h2, p⟩ := lstD_inv ok r p
  obtain ⟨bs, e, p⟩ := opt_inv p
  have := ints_rep h2 e
  subst this
  refine ⟨a, bs, rfl, Rd.sql h1, fun ns' p1 h3 h4 hp => ?_⟩
  have := sortI_uniq h3 h4
  subst this
  obtain ⟨G', s, ok', rr, q⟩ := mk_lst ok (RepL.ofInts _) p hp
  exact q _ rr

/-! ### isinstance -/
/-- a value's type -/
inductive Ty where | b (n : String) | c (i : Nat)
  deriving DecidableEq
@[simp] def tyD : Wv → M Ty
  | .d .non => ret (.b "NoneType")
  | .d (.bl _) => ret (.b "bool")
  | .d (.int _) => ret (.b "int")
  | .d (.str _) => ret (.b "str")
  | .d (.tup _) => ret (.b "tuple")
  | .d (.lst _) => ret (.b "list")
  | .d (.obj c _) => ret (.c c)
  | .r n => fun st => match st[n]? with
    | some (.lst _) => .ok (.b "list") st
    | some (.obj c _) => .ok (.c c) st
    | _ => .bad
def tyV' (Γ : Gam) : Ty → Value
  | .b n => .type n
  | .c i => .ref (Γ.cls i)
/-- what isinstance asks of the class of an instance -/
structure InsF (K : PySem.W.Frag) (C : Addr) : Prop where
  cl : Cls K C
  ha : PySem.W.findIn K (.ref C) "__class__" = some (some (.builtin "object.__class__"))
  hn : PySem.W.specialIn K (.builtin "object.__class__") "__get__" = some (some (.builtin "getset_descriptor.__get__"))
  ht : PySem.W.takesIn K (.builtin "object.__class__") = some true
  hm : PySem.W.mroIn K C (.type "object") = some true
@[simp] def inCs (cs : List Nat) : Ty → Bool
  | .c i => decide (i ∈ cs)
  | .b _ => true
theorem tyD_inv {α : Type} {G : Gh} {H : Hp} {st : Store} {w : Wv} {v : V} {f : Ty → M α} {K : α → Store → Gh → Hp → Prop} (cs : List Nat) (hcs : ∀ c ∈ cs, InsF X.K (Γ.cls c)) (ok : GOk Γ G H st) (r : RepW Γ G H w v)
    (p : Post Γ E G H (bnd (tyD w) (fun t => if (inCs cs t = true) then f t else bad) st) K) :
    ∃ t, TyX X.K H v (tyV' Γ t) ∧ (∀ i, t = .c i → i ∈ cs) ∧ (∀ n, t = .b n → n ∈ ["NoneType", "bool", "int", "str", "tuple", "list"]) ∧ Post Γ E G H (f t st) K := by
  have key : ∀ t, TyX X.K H v (tyV' Γ t) ∨ (∃ i, t = .c i ∧ ∃ a dx fs, v = .ref a ∧ H a = some (.ins (Γ.cls i) dx fs)) → (∀ n, t = .b n → n ∈ ["NoneType", "bool", "int", "str", "tuple", "list"]) →
      Post Γ E G H ((if (inCs cs t = true) then f t else bad) st) K → ∃ t, TyX X.K H v (tyV' Γ t) ∧ (∀ i, t = .c i → i ∈ cs) ∧ (∀ n, t = .b n → n ∈ ["NoneType", "bool", "int", "str", "tuple", "list"]) ∧ Post Γ E G H (f t st) K := fun t h hb p => by
    obtain ⟨h1, p⟩ := p.iff
    refine ⟨t, ?_, fun i e => by subst e; exact of_decide_eq_true h1, hb, p⟩
    rcases h with h | ⟨i, rfl, a, dx, fs, rfl, h⟩
    · exact h
    · have F := hcs i (of_decide_eq_true h1)
      exact .base (.ins h F.cl F.ha F.hn F.ht F.hm)
  have nb : ∀ {i : Nat} (n : String), Ty.c i = .b n → n ∈ ["NoneType", "bool", "int", "str", "tuple", "list"] := fun n e => by cases e
  have bb : ∀ {m : String} (hm : m ∈ ["NoneType", "bool", "int", "str", "tuple", "list"]) (n : String), Ty.b m = .b n → n ∈ ["NoneType", "bool", "int", "str", "tuple", "list"] := fun hm n e => by cases e; exact hm
  cases w with
  | d x =>
    cases x with
    | non => cases r; exact key (.b "NoneType") (.inl (.base .non)) (bb (by simp)) p
    | bl b => cases r; exact key (.b "bool") (.inl (.base (.bl b))) (bb (by simp)) p
    | int b => cases r; exact key (.b "int") (.inl (.base (.int b))) (bb (by simp)) p
    | str b => cases r; exact key (.b "str") (.inl (.base (.str b))) (bb (by simp)) p
    | tup l => cases r with | tup s h t => exact key (.b "tuple") (.inl (.base (.tup h))) (bb (by simp)) p
    | lst l => cases r with | lst s h t => exact key (.b "list") (.inl (.base (h.elim (fun h => .lst h) fun ⟨o, h⟩ => .frz h))) (bb (by simp)) p
    | obj c fs => cases r with | obj s h t => exact key (.c c) (.inr ⟨c, rfl, _, _, _, rfl, h⟩) nb p
  | r n =>
    obtain ⟨a, e, rfl⟩ := r
    have p : Post Γ E G H (bnd (fun st => match st[n]? with
      | some (.lst _) => .ok (.b "list") st
      | some (.obj c _) => .ok (.c c) st
      | _ => .bad) (fun t => if (inCs cs t = true) then f t else bad) st) K := p
    unfold bnd at p
    cases h : st[n]? with
    | none => simp only [h] at p; exact p.elim
    | some c =>
      cases c with
      | lst ws =>
        simp only [h] at p
        obtain ⟨xs, _, h2, h3⟩ := cell_lst ok e h
        exact key (.b "list") (.inl (.base (.lst h2))) (bb (by simp)) p
      | obj c fs =>
        simp only [h] at p
        obtain ⟨_, dx, gs, h2, _⟩ := ok.cells n a _ e h
        exact key (.c c) (.inr ⟨c, rfl, _, _, _, rfl, h2⟩) nb p
      | dead => simp only [h] at p; exact p.elim
/-- is a value of type t an instance of u -/
@[simp] def subTy (t u : Ty) : Bool := decide (t = u) || (decide (t = .b "bool") && decide (u = .b "int"))
/-- the answers for one class u: the built-in kinds and the classes cs -/
structure IsF (Γ : Gam) (K : PySem.W.Frag) (cs : List Nat) (u : Ty) : Prop where
  b : ∀ n, n ∈ ["NoneType", "bool", "int", "str", "tuple", "list"] → PySem.W.kitOne K (.type n) (tyV' Γ u) = some (subTy (.b n) u)
  c : ∀ i ∈ cs, PySem.W.kitOne K (.ref (Γ.cls i)) (tyV' Γ u) = some (subTy (.c i) u)
theorem IsF.all {K : PySem.W.Frag} {cs : List Nat} {u : Ty} (F : IsF Γ K cs u) {t : Ty} (h1 : ∀ i, t = .c i → i ∈ cs) (h2 : ∀ n, t = .b n → n ∈ ["NoneType", "bool", "int", "str", "tuple", "list"]) :
    PySem.W.kitOne K (tyV' Γ t) (tyV' Γ u) = some (subTy t u) := by
  cases t with
  | b n => exact F.b n (h2 n rfl)
  | c i => exact F.c i (h1 i rfl)
@[simp] def isiM (cs : List Nat) (us : List Ty) (m : Env' → M Wv) : Env' → M Wv := fun env => bnd (m env) fun w => bnd (tyD w) fun t => if (inCs cs t = true) then ret (.d (.bl (us.any fun u => subTy t u))) else bad
/-- isinstance(e, u), u a built-in class | an own class -/
theorem e_isi {e : Expr} {m : Env' → M Wv} {p p2 pos : Pos} {c : V} {u : Ty} {y : Str} (cs : List Nat) (hcs : ∀ c ∈ cs, InsF X.K (Γ.cls c)) (F : IsF Γ X.K cs u) (he : PE X e (tM Γ E m)) (hc : ClsV c (tyV' Γ u)) (hy : PE X (.Name y p2) (tC c))
    (hm : X.mg "isinstance" = none) (hg : Gl X "isinstance" := by rfl) (hs : starEach [e, .Name y p2] X.env = (false, eval e X.env) :: starEach [.Name y p2] X.env := by rfl) :
    PE X (.Call (.Name "isinstance" p) [e, .Name y p2] [] pos) (tM Γ E (isiM cs [u] m)) :=
  PEw (pe_callB call_isi hg hm (by decide +kernel) (pa_cons he (pa_cons hy pa_nil) hs) (by decide) (by decide) hs rfl) fun σ H Q h => by
    refine At.bnd (f := fun w _ => bnd (tyD w) fun t => if (inCs cs t = true) then (ret (.d (.bl ([u].any fun u => subTy t u))) : M Wv) else bad) h fun w st G H1 ok ⟨env, re, p⟩ v rv => ?_
    obtain ⟨t, ht, h1, h2, p⟩ := tyD_inv (X := X) cs hcs ok rv p
    refine ⟨v, c, _, _, _, rfl, hc, ht, F.all h1 h2, ?_⟩
    have := p.fin ok (v := .bl _) (.bl _)
    simpa using this
theorem GOk.junk {G : Gh} {H : Hp} {st : Store} {p : Addr} {o : HO} (ok : GOk Γ G H st) (hp : H p = none) : Step G H G (upd H p o) ∧ GOk Γ G (upd H p o) st := by
  have nP : ∀ {a}, G.S a ∨ a ∈ G.π → a ≠ p := fun h e => ok.tr _ h (e ▸ hp)
  have s : Step G H G (upd H p o) := ⟨⟨[], by simp⟩, fun _ h => h, fun a u e _ => by rw [upd_ne (ne_of_none e hp)]; exact e, fun a h => h.elim .inl fun h => .inr (.inl h)⟩
  refine ⟨s, ok.len, ok.nd, fun a h => by rw [upd_ne (nP h)]; exact ok.tr a h, fun n a c e1 e2 => ?_⟩
  have q := ok.cells n a c e1 e2
  have hap : a ≠ p := nP (.inr (List.mem_of_getElem? e1))
  cases c with
  | dead => trivial
  | lst ws =>
    obtain ⟨h1, xs, h2, h3⟩ := q
    exact ⟨h1, xs, by rw [upd_ne hap]; exact h2, s.vals h3⟩
  | obj c fs =>
    obtain ⟨h1, dx, gs, h2, h3⟩ := q
    exact ⟨h1, dx, gs, by rw [upd_ne hap]; exact h2, s.flds h3⟩
theorem tyX_upd {K : PySem.W.Frag} {H : Hp} {p : Addr} {o : HO} {v : V} {t : Value} (hp : H p = none) (h : TyX K H v t) : TyX K (upd H p o) v t := by
  have k : ∀ {a u}, H a = some u → upd H p o a = some u := fun e => by rw [upd_ne (ne_of_none e hp)]; exact e
  cases h with
  | base b =>
    cases b with
    | non => exact .base .non
    | bl x => exact .base (.bl x)
    | int x => exact .base (.int x)
    | str x => exact .base (.str x)
    | flt x => exact .base (.flt x)
    | lst e => exact .base (.lst (k e))
    | frz e => exact .base (.frz (k e))
    | tup e => exact .base (.tup (k e))
    | dK e => exact .base (.dK (k e))
    | dT e => exact .base (.dT (k e))
    | ins e a b c d f => exact .base (.ins (k e) a b c d f)
  | byt b => exact .byt b
  | set e => exact .set (k e)
  | kList e c => exact .kList e c
  | kTuple e c => exact .kTuple e c
  | kDict e c => exact .kDict e c
  | fTuple e => exact .fTuple (k e)
  | fDict e => exact .fDict (k e)
/-- isinstance(e, (list, tuple)) and its like, two built-in classes -/
theorem e_isi2 {e : Expr} {m : Env' → M Wv} {p p2 p3 p4 pos : Pos} {k : Nat} {n1 n2 : String} {y z : Str} (cs : List Nat) (hcs : ∀ c ∈ cs, InsF X.K (Γ.cls c)) (F1 : IsF Γ X.K cs (.b n1)) (F2 : IsF Γ X.K cs (.b n2)) (he : PE X e (tM Γ E m))
    (hy : PE X (.Name y p2) (tC (.ty n1))) (hz : PE X (.Name z p3) (tC (.ty n2)))
    (hm : X.mg "isinstance" = none) (hg : Gl X "isinstance" := by rfl) (hs : starEach [e, .Tuple [.Name y p2, .Name z p3] k p4] X.env = (false, eval e X.env) :: starEach [.Tuple [.Name y p2, .Name z p3] k p4] X.env := by rfl) :
    PE X (.Call (.Name "isinstance" p) [e, .Tuple [.Name y p2, .Name z p3] k p4] [] pos) (tM Γ E (isiM cs [.b n1, .b n2] m)) :=
  PEw (pe_callB call_isiT hg hm (by decide +kernel) (pa_cons he (pa_cons (pe_tup (pa_cons hy (pa_cons hz pa_nil))) pa_nil) hs) (by decide) (by decide) hs rfl) fun σ H Q h => by
    refine At.bnd (f := fun w _ => bnd (tyD w) fun t => if (inCs cs t = true) then (ret (.d (.bl ([Ty.b n1, Ty.b n2].any fun u => subTy t u))) : M Wv) else bad) h fun w st G H1 ok ⟨env, re, p⟩ v rv => ?_
    obtain ⟨t, ht, h1, h2, p⟩ := tyD_inv (X := X) cs hcs ok rv p
    refine ⟨(by show 2 ≤ sizeLine; decide), fun tp hp => ?_⟩
    obtain ⟨s, ok'⟩ := ok.junk (o := .tup [.ty n1, .ty n2]) hp
    refine ⟨v, tp, [.ty n1, .ty n2], _, [.type n1, .type n2], _, rfl, upd_same, .cons (.ty _) (.cons (.ty _) .nil), tyX_upd hp ht, ?_, (p.step s).fin ok' (v := .bl _) (.bl _)⟩
    have e1 := F1.all h1 h2
    have e2 := F2.all h1 h2
    have e1 : PySem.W.kitOne X.K (tyV' Γ t) (.type n1) = some (subTy t (.b n1)) := e1
    have e2 : PySem.W.kitOne X.K (tyV' Γ t) (.type n2) = some (subTy t (.b n2)) := e2
    unfold PySem.W.kitAny PySem.W.kitAny PySem.W.kitAny
    rw [e1, e2]
    simp only [List.any_cons, List.any_nil, Bool.or_false]
    cases subTy t (.b n1) <;> cases subTy t (.b n2) <;> rfl
end
end Bj

set_option Elab.async false
set_option linter.all false
set_option maxRecDepth 100000
set_option maxHeartbeats 1000000
/-! The mirror layer, part F: cells changed, methods, targets, iterables, statements, loops. -/
namespace Bj
open PySem PySem.Spec PyProof.Rows L2
section
variable {Γ : Gam} {E : XK} {X : Cx}

/-! ### a cell is changed -/
theorem nodup_ne {α : Type} {l : List α} (h : l.Nodup) {i j : Nat} {a b : α} (h1 : l[i]? = some a) (h2 : l[j]? = some b) (hij : i ≠ j) : a ≠ b := by
  intro e
  subst e
  obtain ⟨p1, e1⟩ := List.getElem?_eq_some_iff.mp h1
  obtain ⟨p2, e2⟩ := List.getElem?_eq_some_iff.mp h2
  exact hij ((List.getElem_inj h).mp (e1.trans e2.symm))
theorem GOk.put {G : Gh} {H : Hp} {st : Store} {n : Nat} {a : Addr} {o : HO} {c : Cell} (ok : GOk Γ G H st) (hp : G.π[n]? = some a) (nS : ¬ G.S a)
    (hc : Step G H G (upd H a o) → CellOk Γ G (upd H a o) a c) : Step G H G (upd H a o) ∧ GOk Γ G (upd H a o) (st.set n c) := by
  have hm : a ∈ G.π := List.mem_of_getElem? hp
  have s : Step G H G (upd H a o) := ⟨⟨[], by simp⟩, fun _ h => h, fun b u e k => by
    by_cases hb : b = a
    · subst hb; exact absurd (k hm) nS
    · rw [upd_ne hb]; exact e, fun b h => h.elim .inl fun h => .inr (.inl h)⟩
  refine ⟨s, by rw [ok.len, List.length_set], ok.nd, fun b h => ?_, fun m b d e1 e2 => ?_⟩
  · by_cases hb : b = a
    · subst hb; rw [upd_same]; simp
    · rw [upd_ne hb]; exact ok.tr b h
  · by_cases hmn : n = m
    · subst hmn
      rw [hp] at e1; cases e1
      have hl : n < st.length := by
        have := (List.getElem?_eq_some_iff.mp e2).1
        simpa using this
      rw [List.getElem?_set_self hl] at e2
      cases e2
      exact hc s
    · rw [List.getElem?_set_ne hmn] at e2
      have q := ok.cells m b d e1 e2
      have hba : b ≠ a := fun e => nodup_ne ok.nd hp e1 hmn e.symm
      cases d with
      | dead => trivial
      | lst ws =>
        obtain ⟨h1, xs, h2, h3⟩ := q
        exact ⟨h1, xs, by rw [upd_ne hba]; exact h2, s.vals h3⟩
      | obj c fs =>
        obtain ⟨h1, dx, gs, h2, h3⟩ := q
        exact ⟨h1, dx, gs, by rw [upd_ne hba]; exact h2, s.flds h3⟩
theorem GOk.putL {G : Gh} {H : Hp} {st : Store} {n : Nat} {a : Addr} {ws : List Wv} {xs : List V} (ok : GOk Γ G H st) (hp : G.π[n]? = some a) (nS : ¬ G.S a) (r : RepWL Γ G H ws xs) :
    Step G H G (upd H a (.lst xs)) ∧ GOk Γ G (upd H a (.lst xs)) (st.set n (.lst ws)) := ok.put hp nS fun s => ⟨nS, xs, upd_same, s.vals r⟩
/-- a new cell -/
theorem GOk.newCell {G : Gh} {H : Hp} {st : Store} {p : Addr} {o : HO} {c : Cell} (ok : GOk Γ G H st) (hp : H p = none)
    (hc : Step G H ⟨G.S, G.π ++ [p]⟩ (upd H p o) → CellOk Γ ⟨G.S, G.π ++ [p]⟩ (upd H p o) p c) : Step G H ⟨G.S, G.π ++ [p]⟩ (upd H p o) ∧ GOk Γ ⟨G.S, G.π ++ [p]⟩ (upd H p o) (st ++ [c]) := by
  have nS : ¬ G.S p := fun h => ok.tr p (.inl h) hp
  have nP : p ∉ G.π := fun h => ok.tr p (.inr h) hp
  have s : Step G H ⟨G.S, G.π ++ [p]⟩ (upd H p o) := ⟨⟨[p], rfl⟩, fun _ h => h, fun b u e _ => by rw [upd_ne (ne_of_none e hp)]; exact e, fun b h => by
    rcases h with h | h
    · exact .inl h
    · rcases List.mem_append.mp h with h | h
      · exact .inr (.inl h)
      · have : b = p := by simpa using h
        subst this; exact .inr (.inr hp)⟩
  refine ⟨s, by simp [ok.len], ?_, fun b h => ?_, fun m b d e1 e2 => ?_⟩
  · refine List.nodup_append.mpr ⟨ok.nd, by simp, fun x hx y hy => ?_⟩
    have : y = p := by simpa using hy
    subst this
    exact fun e => nP (e ▸ hx)
  · by_cases hb : b = p
    · subst hb; rw [upd_same]; simp
    · rw [upd_ne hb]
      rcases h with h | h
      · exact ok.tr b (.inl h)
      · rcases List.mem_append.mp h with h | h
        · exact ok.tr b (.inr h)
        · exact absurd (by simpa using h) hb
  · have hl := ok.len
    by_cases hm : m < st.length
    · have e1 : G.π[m]? = some b := by
        have : (G.π ++ [p])[m]? = some b := e1
        rw [List.getElem?_append_left (by omega)] at this
        exact this
      have e2 : st[m]? = some d := by
        rw [List.getElem?_append_left hm] at e2
        exact e2
      have q := ok.cells m b d e1 e2
      have hbp : b ≠ p := fun e => nP (e ▸ List.mem_of_getElem? e1)
      cases d with
      | dead => trivial
      | lst ws =>
        obtain ⟨h1, xs, h2, h3⟩ := q
        exact ⟨h1, xs, by rw [upd_ne hbp]; exact h2, s.vals h3⟩
      | obj c fs =>
        obtain ⟨h1, dx, gs, h2, h3⟩ := q
        exact ⟨h1, dx, gs, by rw [upd_ne hbp]; exact h2, s.flds h3⟩
    · have hm2 : m = st.length := by
        have := (List.getElem?_eq_some_iff.mp e2).1
        rw [List.length_append] at this
        simp at this
        omega
      subst hm2
      have e1 : b = p := by
        have : (G.π ++ [p])[st.length]? = some b := e1
        rw [← hl, List.getElem?_append_right (Nat.le_refl _)] at this
        simpa using this.symm
      have e2 : d = c := by
        rw [List.getElem?_append_right (Nat.le_refl _)] at e2
        simpa using e2.symm
      subst e1 e2
      exact hc s
/-- a display that stays a cell -/
@[simp] def oLstC (ws : List Wv) : M Wv := fun st => if ws.length ≤ 1000000 then .ok (.r st.length) (st ++ [.lst ws]) else .bad
theorem newL {G : Gh} {H : Hp} {st : Store} {ws : List Wv} {vs : List V} {K : Wv → Store → Gh → Hp → Prop} (ok : GOk Γ G H st) (r : RepWL Γ G H ws vs) (p : Post Γ E G H (.ok (.r st.length) (st ++ [.lst ws])) K)
    {p1 : Addr} (hp : H p1 = none) : ∃ G', Step G H G' (upd H p1 (.lst vs)) ∧ GOk Γ G' (upd H p1 (.lst vs)) (st ++ [.lst ws]) ∧ RepW Γ G' (upd H p1 (.lst vs)) (.r st.length) (.ref p1) ∧ K (.r st.length) (st ++ [.lst ws]) G' (upd H p1 (.lst vs)) := by
  have nS : ¬ G.S p1 := fun h => ok.tr p1 (.inl h) hp
  obtain ⟨s, ok'⟩ := ok.newCell (o := .lst vs) (c := .lst ws) hp fun s => ⟨nS, vs, upd_same, s.vals r⟩
  refine ⟨_, s, ok', ⟨p1, ?_, rfl⟩, p _ _ s ok'⟩
  show (G.π ++ [p1])[st.length]? = some p1
  rw [← ok.len, List.getElem?_append_right (Nat.le_refl _)]
  simp
theorem e_lstC {es : List Expr} {pos} {a : Env' → M (List Wv)} (ha : PA X es (aM Γ E a)) : PE X (.List es pos) (tM Γ E (mL oLstC a)) := PEw (pe_lst ha) fun σ H Q h => by
  refine At.bnd (f := fun x _ => oLstC x) h fun ws st G H1 ok ⟨env, re, p⟩ vs rvs => ?_
  unfold oLstC at p
  by_cases hl : ws.length ≤ 1000000
  · rw [if_pos hl] at p
    refine ⟨by rw [← Paired.length rvs]; exact sz hl, fun p1 hp => ?_⟩
    obtain ⟨G', s, ok', rr, q⟩ := newL ok rvs p hp
    exact q _ rr
  · rw [if_neg hl] at p; exact p.elim
/-- list * int, a cell: [0] * n -/
def oMulC (w u : Wv) : M Wv := bnd (lstD w) fun l => bnd (intD u) fun k => if -1000000 ≤ k ∧ k ≤ 1000000 ∧ l.length * k.toNat ≤ 1000000 then fun st => .ok (.r st.length) (st ++ [.lst ((List.replicate k.toNat l).flatten.map .d)]) else bad
theorem r_mulC : OpR X (binaryOp .Mult) (rM Γ E oMulC) := OpRw op_repR fun x y H Q q => by
  obtain ⟨G, st, w, u, ok, rw', ru, p⟩ := q
  obtain ⟨ds, a, xs, rfl, h1, h2, p⟩ := lstD_inv ok rw' p
  obtain ⟨k, rfl, p⟩ := intD_inv ru p
  by_cases hc : -1000000 ≤ k ∧ k ≤ 1000000 ∧ ds.length * k.toNat ≤ 1000000
  · rw [if_pos hc] at p
    obtain ⟨h3, h4, h5⟩ := hc
    refine ⟨a, k, xs, rfl, rfl, h1, by omega, by omega, by rw [← h2.length]; exact sz h5, fun p1 hp => ?_⟩
    obtain ⟨G', s, ok', rr, q⟩ := newL ok (h2.rep _).toW p hp
    exact q _ rr
  · rw [if_neg hc] at p; exact p.elim

/-! ### methods of built-in types -/
@[simp] def chkL : Wv → M Unit
  | .d (.lst _) => ret ()
  | .r n => fun st => match st[n]? with
    | some (.lst _) => .ok () st
    | _ => .bad
  | _ => bad
def chkT : Wv → M Unit
  | .d (.tup _) => ret ()
  | _ => bad
@[simp] def mBM (chk : Wv → M Unit) (op : Wv → List Wv → M Wv) (o : Env' → M Wv) (a : Env' → M (List Wv)) : Env' → M Wv := fun env => bnd (o env) fun w => bnd (chk w) fun _ => bnd (a env) fun ws => op w ws
def mtM (Γ : Gam) (E : XK) (op : Wv → List Wv → M Wv) : V → List V → Hp → VK → Prop := fun x xs H Q => ∃ (G : Gh) (st : Store) (w : Wv) (ws : List Wv), GOk Γ G H st ∧ RepW Γ G H w x ∧ RepWL Γ G H ws xs ∧
  Post Γ E G H (op w ws st) fun z st' G' H' => ∀ v, RepW Γ G' H' z v → Q v H'
theorem MtRw {id : String} {r r' : V → List V → Hp → VK → Prop} (h : MtR X id r) (w : ∀ x xs H Q, r' x xs H Q → r x xs H Q) : MtR X id r' := fun pins s σ H x xs v us Q I rx rs q => h pins s σ H x xs v us Q I rx rs (w x xs H Q q)
theorem chkL_inv {α : Type} {G : Gh} {H : Hp} {st : Store} {w : Wv} {v : V} {f : Unit → M α} {K : α → Store → Gh → Hp → Prop} (ok : GOk Γ G H st) (r : RepW Γ G H w v) (p : Post Γ E G H (bnd (chkL w) f st) K) : tyV X.K "list" v H ∧ Post Γ E G H (f () st) K := by
  cases w with
  | d x =>
    cases x with
    | lst l => cases r with | lst s h t => exact ⟨.inl ⟨rfl, _, Rd.sql h⟩, p⟩
    | _ => exact p.elim
  | r n =>
    obtain ⟨a, e, rfl⟩ := r
    have p : Post Γ E G H (bnd (fun st => match st[n]? with
      | some (.lst _) => .ok () st
      | _ => .bad) f st) K := p
    unfold bnd at p
    cases h : st[n]? with
    | none => simp only [h] at p; exact p.elim
    | some c =>
      cases c with
      | lst ws =>
        simp only [h] at p
        obtain ⟨xs, _, h2, h3⟩ := cell_lst ok e h
        exact ⟨.inl ⟨rfl, xs, .of h2⟩, p⟩
      | _ => simp only [h] at p; exact p.elim
theorem tBM_of {op : Wv → List Wv → M Wv} {o : Env' → M Wv} {a : Env' → M (List Wv)} {σ : L2.St} {H : Hp} {Q : VK} (h : tM Γ E (mBM chkL op o a) σ H Q) : tBM X.K "list" (mtM Γ E op) (tM Γ E o) (aM Γ E a) σ H Q := by
  refine At.bnd h fun w st G H1 ok ⟨env, re, p⟩ v rv => ?_
  obtain ⟨ty, p⟩ := chkL_inv (X := X) ok rv p
  exact ⟨ty, G, env, st, ok, re, p.bnd.imp fun ws st2 G2 H2 s2 ok2 q vs rvs => ⟨G2, st2, w, ws, ok2, s2.val rv, rvs, q⟩⟩
theorem e_lmeth {o e : Expr} {es : List Expr} {mo : Env' → M Wv} {a : Env' → M (List Wv)} {op : Wv → List Wv → M Wv} {name : Str} {id : String} {apos cpos : Pos} (slot : Slot "list" name id) (hty : typeOf (.builtin id) = pure (.type "method_descriptor")) (hm : MtR X id (mtM Γ E op))
    (ho : PE X o (tM Γ E mo)) (ha : PA X (e :: es) (aM Γ E a))
    (hbase : attributeBase o name X.env (eval o X.env) = eval o X.env := by rfl)
    (hfew : ((backTo cpos (starEach (e :: es) X.env)).all (fun x => !x.1) && (backToKw cpos (keywordEach [] X.env)).all (fun x => x.1.isSome)
      && decide ((e :: es).length + ([] : List Keyword).length + (if ([] : List Keyword).isEmpty then 0 else 1) < 30)) = true := by rfl)
    (hline : (apos.endLine == cpos.line) = true := by rfl) (hs : starEach (e :: es) X.env = (false, eval e X.env) :: starEach es X.env := by rfl) (hplain : (backTo cpos (starEach es X.env)).any (·.1) = false := by rfl) :
    PE X (.Call (.Attribute o name apos) (e :: es) [] cpos) (tM Γ E (mBM chkL op mo a)) := PEw (pe_bm PySem.F.plainAttrs_list slot hty hm ho ha hbase hfew hline hs hplain) fun σ H Q h => tBM_of h
def mBM0 (chk : Wv → M Unit) (op : Wv → List Wv → M Wv) (o : Env' → M Wv) : Env' → M Wv := fun env => bnd (o env) fun w => bnd (chk w) fun _ => op w []
theorem e_lmeth0 {o : Expr} {mo : Env' → M Wv} {op : Wv → List Wv → M Wv} {name : Str} {id : String} {apos cpos : Pos} (slot : Slot "list" name id) (hty : typeOf (.builtin id) = pure (.type "method_descriptor")) (hm : MtR X id (mtM Γ E op))
    (ho : PE X o (tM Γ E mo)) (hbase : attributeBase o name X.env (eval o X.env) = eval o X.env := by rfl) (hline : (apos.endLine == cpos.line) = true := by rfl) : PE X (.Call (.Attribute o name apos) [] [] cpos) (tM Γ E (mBM0 chkL op mo)) :=
  PEw (pe_bm0 PySem.F.plainAttrs_list slot hty hm ho hbase hline) fun σ H Q h => by
    refine At.bnd (f := fun w _ => bnd (chkL w) fun _ => op w []) h fun w st G H1 ok ⟨env, re, p⟩ v rv => ?_
    obtain ⟨ty, p⟩ := chkL_inv (X := X) ok rv p
    exact ⟨ty, G, st, w, [], ok, rv, .nil, p⟩
/-- the list of the cell n -/
def cellL (w : Wv) : M (Nat × List Wv) := match w with
  | .r n => fun st => match st[n]? with
    | some (.lst ws) => .ok (n, ws) st
    | _ => .bad
  | _ => bad
def setL (n : Nat) (ws : List Wv) : M Unit := fun st => .ok () (st.set n (.lst ws))
theorem cellL_inv {α : Type} {G : Gh} {H : Hp} {st : Store} {w : Wv} {v : V} {f : Nat × List Wv → M α} {K : α → Store → Gh → Hp → Prop} (ok : GOk Γ G H st) (r : RepW Γ G H w v) (p : Post Γ E G H (bnd (cellL w) f st) K) :
    ∃ n ws a xs, v = .ref a ∧ G.π[n]? = some a ∧ ¬ G.S a ∧ H a = some (.lst xs) ∧ RepWL Γ G H ws xs ∧ Post Γ E G H (f (n, ws) st) K := by
  cases w with
  | d x => exact p.elim
  | r n =>
    obtain ⟨a, e, rfl⟩ := r
    have p : Post Γ E G H (bnd (fun st => match st[n]? with
      | some (.lst ws) => .ok (n, ws) st
      | _ => .bad) f st) K := p
    unfold bnd at p
    cases h : st[n]? with
    | none => simp only [h] at p; exact p.elim
    | some c =>
      cases c with
      | lst ws =>
        simp only [h] at p
        obtain ⟨xs, h1, h2, h3⟩ := cell_lst ok e h
        exact ⟨n, ws, a, xs, rfl, e, h1, h2, h3, p⟩
      | _ => simp only [h] at p; exact p.elim
/-- behind a store into a list cell -/
theorem setL_post {α : Type} {G : Gh} {H : Hp} {st : Store} {n : Nat} {a : Addr} {ws : List Wv} {xs : List V} {f : Unit → M α} {K : α → Store → Gh → Hp → Prop} (ok : GOk Γ G H st) (hp : G.π[n]? = some a) (nS : ¬ G.S a) (r : RepWL Γ G H ws xs)
    (p : Post Γ E G H (bnd (setL n ws) f st) K) : Step G H G (upd H a (.lst xs)) ∧ GOk Γ G (upd H a (.lst xs)) (st.set n (.lst ws)) ∧ Post Γ E G (upd H a (.lst xs)) (f () (st.set n (.lst ws))) K := by
  obtain ⟨s, ok'⟩ := ok.putL hp nS r
  exact ⟨s, ok', Post.step s p⟩
def oAppend (w : Wv) (us : List Wv) : M Wv := match us with
  | [u] => bnd (cellL w) fun (n, ws) => if ws.length < 1000000 then bnd (setL n (ws ++ [u])) fun _ => ret (.d .non) else bad
  | _ => bad
theorem RepWL.snoc {G : Gh} {H : Hp} {ws : List Wv} {xs : List V} {u : Wv} {y : V} (r : RepWL Γ G H ws xs) (ru : RepW Γ G H u y) : RepWL Γ G H (ws ++ [u]) (xs ++ [y]) := by
  induction r with
  | nil => exact .cons ru .nil
  | cons r t ih => exact .cons r ih
theorem m_append : MtR X "list.append" (mtM Γ E oAppend) := MtRw mt_append fun x xs H Q q => by
  obtain ⟨G, st, w, us, ok, r1, r2, p⟩ := q
  cases r2 with
  | nil => exact p.elim
  | cons ru t =>
    cases t with
    | cons _ _ => exact p.elim
    | nil =>
      obtain ⟨n, ws, a, xs, rfl, hp, nS, hH, rl, p⟩ := cellL_inv ok r1 p
      obtain ⟨hl, p⟩ := Post.iff (c := ws.length < 1000000) p
      refine ⟨a, xs, _, rfl, rfl, hH, by rw [← Paired.length rl]; exact sz' hl, ?_⟩
      obtain ⟨s, ok', p⟩ := setL_post ok hp nS (rl.snoc ru) p
      exact p.fin ok' .non
/-- texts: s.split(sep), sep.join(list) -/
@[simp] def mS1 (op : Str → Wv → M Wv) (o e : Env' → M Wv) : Env' → M Wv := fun env => bnd (o env) fun w => bnd (strD w) fun s => bnd (e env) fun u => op s u
@[simp] def oSplit (s : Str) (u : Wv) : M Wv := bnd (strD u) fun t => if (t.length == 0) = false ∧ s.length ≤ 1000000 then ret (.d (.lst ((Txt.split s t).map .str))) else bad
theorem e_split {o e : Expr} {mo me : Env' → M Wv} {apos pos : Pos} (ho : PE X o (tM Γ E mo)) (he : PE X e (tM Γ E me)) (hs : starEach [e] X.env = [(false, eval e X.env)] := by rfl) (hbase : attributeBase o "split" X.env (eval o X.env) = eval o X.env := by rfl)
    (hline : (apos.endLine == pos.line) = true := by rfl) : PE X (.Call (.Attribute o "split" apos) [e] [] pos) (tM Γ E (mS1 oSplit mo me)) := PEw (pe_split ho he hs hbase hline) fun σ H Q h => by
  refine At.bnd h fun w st G H1 ok ⟨env, re, p⟩ v rv => ?_
  obtain ⟨s, rfl, p⟩ := strD_inv rv p
  refine ⟨⟨s, rfl⟩, G, env, st, ok, re, p.bnd.imp fun u st2 G2 H2 s2 ok2 q y ry => ?_⟩
  obtain ⟨t, rfl, q⟩ := strD_inv ry q
  obtain ⟨⟨h1, h2⟩, q⟩ := q.iff
  have hz : sizeLine = 16777216 := sizeLine_eq
  refine ⟨s, t, rfl, rfl, h1, by omega, fun p1 hp => ?_⟩
  obtain ⟨G', s', ok', rr, q⟩ := mk_lst ok2 (RepL.ofStrs (Txt.split s t)) q hp
  exact q _ rr
@[simp] def oJoin (s : Str) (u : Wv) : M Wv := bnd (lstD u) fun l => bnd (opt (strsP l)) fun ys => if (ys.map (·.length)).sum + ys.length * s.length ≤ 1000000 then ret (.d (.str (Txt.join s ys))) else bad
theorem e_join {o e : Expr} {mo me : Env' → M Wv} {apos pos : Pos} (ho : PE X o (tM Γ E mo)) (he : PE X e (tM Γ E me)) (hs : starEach [e] X.env = [(false, eval e X.env)] := by rfl) (hbase : attributeBase o "join" X.env (eval o X.env) = eval o X.env := by rfl)
    (hline : (apos.endLine == pos.line) = true := by rfl) : PE X (.Call (.Attribute o "join" apos) [e] [] pos) (tM Γ E (mS1 oJoin mo me)) := PEw (pe_join ho he hs hbase hline) fun σ H Q h => by
  refine At.bnd h fun w st G H1 ok ⟨env, re, p⟩ v rv => ?_
  obtain ⟨s, rfl, p⟩ := strD_inv rv p
  refine ⟨⟨s, rfl⟩, G, env, st, ok, re, p.bnd.imp fun u st2 G2 H2 s2 ok2 q y ry => ?_⟩
  obtain ⟨ds, a, xs, rfl, h1, h2, q⟩ := lstD_inv ok2 ry q
  obtain ⟨ys, e, q⟩ := opt_inv q
  have := strs_rep h2 e
  subst this
  obtain ⟨h3, q⟩ := q.iff
  exact ⟨s, a, ys, rfl, rfl, .inl (Rd.sql h1), by omega, q.fin ok2 (.str _)⟩
end
end Bj

set_option Elab.async false
set_option linter.all false
set_option maxRecDepth 100000
set_option maxHeartbeats 1000000
/-! The mirror layer, part G: statements, targets, iterables, loops. -/
namespace Bj
open PySem PySem.Spec PyProof.Rows L2

/-- how a statement ends -/
inductive Fl where
  | nx (e : Env') | rt (w : Wv) | bk (e : Env') | ct (e : Env')
section
variable (Γ : Gam) (E : XK)
def FlK (D : Ends) : Fl → Store → Gh → Hp → Prop := fun f st' G' H' => match f with
  | .nx e => ∀ σ', REnv Γ G' H' e σ' → D.nx σ' H'
  | .rt w => ∀ v, RepW Γ G' H' w v → D.rt v H'
  | .bk e => ∀ σ', REnv Γ G' H' e σ' → D.bk σ' H'
  | .ct e => ∀ σ', REnv Γ G' H' e σ' → D.ct σ' H'
def tS (m : Env' → M Fl) : TS := fun D σ H => At Γ E m σ H (FlK Γ D)
/-- σ' is σ but for the slots vs -/
def Only (vs : List Nat) (σ σ' : L2.St) : Prop := σ'.length = σ.length ∧ ∀ j, j ∉ vs → σ'[j]? = σ[j]?
/-- a target: the value, the slots -/
def gM (vs : List Nat) (t : Wv → Env' → M Env') : TG := fun v σ H Q => ∃ (G : Gh) (env : Env') (st : Store) (w : Wv), GOk Γ G H st ∧ REnv Γ G H env σ ∧ RepW Γ G H w v ∧
  Post Γ E G H (t w env st) fun e st' G' H' => ∀ σ', REnv Γ G' H' e σ' → Only vs σ σ' → Q σ' H'
def gMs (vs : List Nat) (t : List Wv → Env' → M Env') : TGs := fun v σ H Q => ∃ (G : Gh) (env : Env') (st : Store) (w : List Wv), GOk Γ G H st ∧ REnv Γ G H env σ ∧ RepWL Γ G H w v ∧
  Post Γ E G H (t w env st) fun e st' G' H' => ∀ σ', REnv Γ G' H' e σ' → Only vs σ σ' → Q σ' H'
end
section
variable {Γ : Gam} {E : XK} {X : Cx}
theorem Only.refl {vs : List Nat} {σ : L2.St} : Only vs σ σ := ⟨rfl, fun _ _ => rfl⟩
theorem Only.trans {vs : List Nat} {σ σ1 σ2 : L2.St} (a : Only vs σ σ1) (b : Only vs σ1 σ2) : Only vs σ σ2 := ⟨b.1.trans a.1, fun j h => (b.2 j h).trans (a.2 j h)⟩
theorem Only.set {vs : List Nat} {σ : L2.St} {i : Nat} {o : Option V} (h : i ∈ vs) : Only vs σ (σ.set i o) := ⟨by simp, fun j hj => List.getElem?_set_ne fun e => hj (by rw [← e]; exact h)⟩
theorem Only.mono {vs vs' : List Nat} {σ σ' : L2.St} (a : Only vs σ σ') (h : ∀ i ∈ vs, i ∈ vs') : Only vs' σ σ' := ⟨a.1, fun j hj => a.2 j fun m => hj (h j m)⟩
theorem wipe_get {σ : L2.St} {j : Nat} : ∀ {vs : List Nat}, j ∈ vs → j < σ.length → (wipe σ vs)[j]? = some none
  | v :: vs, h, hl => by
    unfold wipe
    by_cases e : v = j
    · subst e
      rw [List.getElem?_set_self (by rw [wipe_length]; exact hl)]
    · rw [List.getElem?_set_ne e]
      rcases List.mem_cons.mp h with h | h
      · exact absurd h.symm e
      · exact wipe_get h hl
theorem Only.wipe {vs : List Nat} {σ σ' : L2.St} (a : Only vs σ σ') : L2.wipe σ' vs = L2.wipe σ vs := by
  apply List.ext_getElem?
  intro j
  by_cases h : j ∈ vs
  · by_cases hl : j < σ.length
    · rw [wipe_get h hl, wipe_get h (by rw [a.1]; exact hl)]
    · have h1 : (L2.wipe σ vs)[j]? = none := List.getElem?_eq_none_iff.mpr (by rw [wipe_length]; omega)
      have h2 : (L2.wipe σ' vs)[j]? = none := List.getElem?_eq_none_iff.mpr (by rw [wipe_length, a.1]; omega)
      rw [h1, h2]
  · rw [wipe_out h, wipe_out h, a.2 j h]
theorem wipe_only {vs : List Nat} {σ : L2.St} : Only vs σ (wipe σ vs) := ⟨wipe_length σ vs, fun j h => wipe_out h⟩

/-! ### targets -/
@[simp] def mSet (i : Nat) : Wv → Env' → M Env' := fun w env => ret (env.set i (some w))
theorem PGw {e : Expr} {t t' : TG} (h : PG X e t) (w : ∀ v σ H Q, t' v σ H Q → t v σ H Q) : PG X e t' := ⟨fun pins s σ H v u Q I r q => h.run pins s σ H v u Q I r (w v σ H Q q)⟩
theorem PGsw {e : List Expr} {t t' : TGs} (h : PGs X e t) (w : ∀ v σ H Q, t' v σ H Q → t v σ H Q) : PGs X e t' := ⟨fun pins s σ H v u Q I r q => h.run pins s σ H v u Q I r (w v σ H Q q)⟩
theorem g_name {i : Nat} {x : Str} {pos : Pos} {vs : List Nat} (hN : X.N.Nodup) (hi : X.N[i]? = some x := by rfl) (hx : Loc X.env.scope x := by first | exact Or.inl rfl | exact Or.inr rfl) (hv : i ∈ vs := by decide)
    (hf : X.fn x = true ∨ X.env.scope.names.lookup x = some .local := by first | exact .inl rfl | exact .inr rfl) : PG X (.Name x pos) (gM Γ E vs (mSet i)) :=
  PGw (pg_name hN hi hx hf) fun v σ H Q q => by
    obtain ⟨G, env, st, w, ok, re, rw', p⟩ := q
    exact p.now ok _ (re.set rw') (.set hv)
def mTNil : List Wv → Env' → M Env' := fun ws env => match ws with | [] => ret env | _ => bad
def mTCons (t : Wv → Env' → M Env') (r : List Wv → Env' → M Env') : List Wv → Env' → M Env' := fun ws env => match ws with | w :: ws => bnd (t w env) fun e => r ws e | _ => bad
theorem gs_nil {vs : List Nat} : PGs X [] (gMs Γ E vs mTNil) := PGsw pgs_nil fun v σ H Q q => by
  obtain ⟨G, env, st, ws, ok, re, r, p⟩ := q
  cases r with
  | nil => exact ⟨rfl, p.now ok _ re .refl⟩
  | cons _ _ => exact p.elim
theorem gs_cons {vs : List Nat} {e : Expr} {es : List Expr} {t : Wv → Env' → M Env'} {r : List Wv → Env' → M Env'} (h1 : PG X e (gM Γ E vs t)) (h2 : PGs X es (gMs Γ E vs r))
    (hs : (assignEach (e :: es) X.env).map (·.2) = assign e X.env :: (assignEach es X.env).map (·.2) := by rfl) : PGs X (e :: es) (gMs Γ E vs (mTCons t r)) := PGsw (pgs_cons h1 h2 hs) fun v σ H Q q => by
  obtain ⟨G, env, st, ws, ok, re, r, p⟩ := q
  cases r with
  | nil => exact p.elim
  | @cons w x ws' vs' r1 r2 =>
    refine ⟨x, vs', rfl, G, env, st, w, ok, re, r1, ?_⟩
    refine (show Post Γ E G H (bnd (t w env) _ st) _ from p).bnd.imp fun e st1 G1 H1 s1 ok1 q σ1 re1 on1 => ?_
    refine ⟨G1, e, st1, ws', ok1, re1, s1.vals r2, q.imp fun e2 st2 G2 H2 s2 ok2 k σ2 re2 on2 => k σ2 re2 (on1.trans on2)⟩
/-- (a, b, ..) = a tuple -/
@[simp] def mUnT (n : Nat) (r : List Wv → Env' → M Env') : Wv → Env' → M Env' := fun w env => bnd (tupD w) fun l => if l.length = n then r (l.map .d) env else bad
theorem g_tup {vs : List Nat} {es : List Expr} {k : Nat} {pos : Pos} {r : List Wv → Env' → M Env'} {n : Nat} (h : PGs X es (gMs Γ E vs r)) (hc : X.calm = true := by rfl)
    (hn : (assignEach es X.env).length = n := by rfl) (hst : (assignEach es X.env).findIdx? (·.1) = none := by rfl) : PG X (.Tuple es k pos) (gM Γ E vs (mUnT n r)) := PGw (pg_tup hc h hn hst) fun v σ H Q q => by
  obtain ⟨G, env, st, w, ok, re, rw', p⟩ := q
  obtain ⟨ds, r1, p⟩ := tupD_inv rw' p
  obtain ⟨hl, p⟩ := p.iff
  cases r1 with
  | @tup a xs _ s1 h1 h2 => exact ⟨a, xs, rfl, .of h1, by rw [← h2.length]; exact hl, G, env, st, _, ok, re, h2.toW, p⟩
/-- (a, b, ..) = a list -/
def mUnL (n : Nat) (r : List Wv → Env' → M Env') : Wv → Env' → M Env' := fun w env => bnd (lstD w) fun l => if l.length = n then r (l.map .d) env else bad
/-- o[i] = v, a list cell -/
def oSetL (o i : Wv) (v : Wv) : M Unit := bnd (intD i) fun k => bnd (cellL o) fun (n, ws) => bnd (opt (ixN ws.length k)) fun j => setL n (ws.set j v)
@[simp] def mSub (mo mi : Env' → M Wv) : Wv → Env' → M Env' := fun v env => bnd (mo env) fun o => bnd (mi env) fun i => bnd (oSetL o i v) fun _ => ret env
theorem RepWL.set {G : Gh} {H : Hp} : ∀ {ws : List Wv} {xs : List V} {u : Wv} {y : V} (j : Nat), RepWL Γ G H ws xs → RepW Γ G H u y → RepWL Γ G H (ws.set j u) (xs.set j y)
  | _, _, _, _, _, .nil, _ => .nil
  | _, _, _, _, 0, .cons _ t, ru => .cons ru t
  | _, _, _, _, j + 1, .cons r t, ru => .cons r (RepWL.set j t ru)
theorem g_sub {vs : List Nat} {o i : Expr} {mo mi : Env' → M Wv} {pos : Pos} (ho : PE X o (tM Γ E mo)) (hi : PE X i (tM Γ E mi)) (ha : ∀ v, assign (.Subscript o i pos) X.env v = (do
      let ov ← holding [v] (eval o X.env)
      let iv ← holding [v, ov] (eval i X.env)
      standAt pos
      holding [v, ov, iv] (setItem ov iv v)
      release [v, ov, iv] []) := by intro _; rfl) : PG X (.Subscript o i pos) (gM Γ E vs (mSub mo mi)) := PGw (pg_sub ho hi set_list ha) fun v σ H Q q => by
  obtain ⟨G, env, st, w, ok, re, rw', p⟩ := q
  refine ⟨G, env, st, ok, re, p.bnd.imp fun ov st1 G1 H1 s1 ok1 p x rx => ?_⟩
  refine ⟨G1, env, st1, ok1, re.step s1, p.bnd.imp fun iv st2 G2 H2 s2 ok2 p y ry => ?_⟩
  have p : Post Γ E G2 H2 (bnd (bnd (intD iv) fun k => bnd (cellL ov) fun (n, ws) => bnd (opt (ixN ws.length k)) fun j => setL n (ws.set j w)) (fun _ => ret env) st2) _ := p
  rw [bnd_assoc] at p
  obtain ⟨k, rfl, p⟩ := intD_inv ry p
  rw [bnd_assoc] at p
  obtain ⟨n, ws, a, xs, rfl, hp, nS, hH, rl, p⟩ := cellL_inv ok2 (s2.val rx) p
  dsimp only at p
  rw [bnd_assoc] at p
  obtain ⟨j, e, p⟩ := opt_inv p
  refine ⟨a, xs, k, j, rfl, rfl, hH, by rw [← Paired.length rl]; exact e, ?_⟩
  obtain ⟨s, ok', p⟩ := setL_post ok2 hp nS (rl.set j (s2.val (s1.val rw'))) p
  exact p.now ok' _ (((re.step s1).step s2).step s) .refl

/-! ### small statements -/
@[simp] def mPass : Env' → M Fl := fun env => ret (.nx env)
@[simp] def sq (a b : Env' → M Fl) : Env' → M Fl := fun env => bnd (a env) fun f => match f with
  | .nx e => b e
  | f => ret f
theorem FlK.sq {G : Gh} {H : Hp} {st : Store} {f : Fl} {b : Env' → M Fl} {D : Ends} (ok : GOk Γ G H st) (p : Post Γ E G H ((match f with | .nx e => b e | f => ret f) st) (FlK Γ D)) : FlK Γ { D with nx := tS Γ E b D } f st G H := by
  cases f with
  | nx e => exact fun σ' re => ⟨G, e, st, ok, re, p⟩
  | rt w => exact Post.now (E := E) ok p
  | bk e => exact Post.now (E := E) ok p
  | ct e => exact Post.now (E := E) ok p
theorem s_nil : PSs X [] (tS Γ E mPass) := PSsw pss_nil fun D σ H q => by
  obtain ⟨G, env, st, ok, re, p⟩ := q
  exact p.now ok _ re
theorem s_cons {s : Stmt} {r : List Stmt} {a b : Env' → M Fl} (h1 : PS X s (tS Γ E a)) (h2 : PSs X r (tS Γ E b)) : PSs X (s :: r) (tS Γ E (sq a b)) := PSsw (pss_cons h1 h2) fun D σ H q => by
  obtain ⟨G, env, st, ok, re, p⟩ := q
  exact ⟨G, env, st, ok, re, p.bnd.imp fun f st1 G1 H1 s1 ok1 p => FlK.sq ok1 p⟩
theorem s_one {s : Stmt} {a : Env' → M Fl} (h1 : PS X s (tS Γ E a)) : PSs X [s] (tS Γ E a) := pss_one h1
theorem s_pass {pos : Pos} : PS X (.Pass pos) (tS Γ E mPass) := PSw ps_pass fun D σ H q => by
  obtain ⟨G, env, st, ok, re, p⟩ := q
  exact p.now ok _ re
@[simp] def mBrk : Env' → M Fl := fun env => ret (.bk env)
@[simp] def mCnt : Env' → M Fl := fun env => ret (.ct env)
theorem s_brk {pos : Pos} : PS X (.Break pos) (tS Γ E mBrk) := PSw ps_break fun D σ H q => by
  obtain ⟨G, env, st, ok, re, p⟩ := q
  exact p.now ok _ re
theorem s_cnt {pos : Pos} : PS X (.Continue pos) (tS Γ E mCnt) := PSw ps_continue fun D σ H q => by
  obtain ⟨G, env, st, ok, re, p⟩ := q
  exact p.now ok _ re
/-- never reached -/
@[simp] def mBad : Env' → M Fl := fun _ => bad
theorem s_never {s : Stmt} : PS X s (tS Γ E mBad) := PSw ps_never fun D σ H q => by
  obtain ⟨G, env, st, ok, re, p⟩ := q
  exact p.elim
theorem ss_never {s : List Stmt} : PSs X s (tS Γ E mBad) := PSsw pss_never fun D σ H q => by
  obtain ⟨G, env, st, ok, re, p⟩ := q
  exact p.elim
@[simp] def mDrop (m : Env' → M Wv) : Env' → M Fl := fun env => bnd (m env) fun _ => ret (.nx env)
theorem s_expr {e : Expr} {m : Env' → M Wv} {pos : Pos} (h : PE X e (tM Γ E m)) (hs : swapsWith e none pos.line X.env = pure false := by rfl) : PS X (.Expr e pos) (tS Γ E (mDrop m)) := PSw (ps_expr h hs) fun D σ H q => by
  obtain ⟨G, env, st, ok, re, p⟩ := q
  exact ⟨G, env, st, ok, re, p.bnd.imp fun w st1 G1 H1 s1 ok1 p v rv => p.now ok1 _ (re.step s1)⟩
@[simp] def mRet (m : Env' → M Wv) : Env' → M Fl := fun env => bnd (m env) fun w => ret (.rt w)
theorem s_ret {e : Expr} {m : Env' → M Wv} {pos : Pos} (h : PE X e (tM Γ E m)) : PS X (.Return (some e) pos) (tS Γ E (mRet m)) := PSw (ps_ret h) fun D σ H q => by
  obtain ⟨G, env, st, ok, re, p⟩ := q
  exact ⟨G, env, st, ok, re, p.bnd.imp fun w st1 G1 H1 s1 ok1 p v rv => p.now ok1 v rv⟩
@[simp] def mRetN : Env' → M Fl := fun env => ret (.rt (.d .non))
theorem s_retN {pos : Pos} : PS X (.Return none pos) (tS Γ E mRetN) := PSw ps_retN fun D σ H q => by
  obtain ⟨G, env, st, ok, re, p⟩ := q
  exact p.now ok _ Rep.non
@[simp] def mIfS (c : Env' → M Bool) (a b : Env' → M Fl) : Env' → M Fl := fun env => bnd (c env) fun k => if k then a env else b env
theorem s_if {c : Expr} {p q : List Stmt} {mc : Env' → M Bool} {a b : Env' → M Fl} {pos : Pos} (hc : PT X c (tB' Γ E mc)) (ha : PSs X p (tS Γ E a)) (hb : PSs X q (tS Γ E b)) : PS X (.If c p q pos) (tS Γ E (mIfS mc a b)) :=
  PSw (ps_if hc ha hb) fun D σ H q => At.bnd (f := fun c env => if c = true then a env else b env) q fun c st G H1 ok ⟨env, re, p⟩ => by
    cases c with
    | true => exact ⟨G, env, st, ok, re, p⟩
    | false => exact ⟨G, env, st, ok, re, p⟩
/-- target = value -/
@[simp] def mAsg (m : Env' → M Wv) (t : Wv → Env' → M Env') : Env' → M Fl := fun env => bnd (m env) fun w => bnd (t w env) fun e => ret (.nx e)
theorem tAsg_of {vs : List Nat} {m : Env' → M Wv} {t : Wv → Env' → M Env'} {D : Ends} {σ : L2.St} {H : Hp} (q : tS Γ E (mAsg m t) D σ H) : tAsg (tM Γ E m) (gM Γ E vs t) D σ H := by
  refine At.bnd q fun w st G H1 ok ⟨env, re, p⟩ v rv => ?_
  exact ⟨G, env, st, w, ok, re, rv, p.bnd.imp fun e st1 G1 H2 s1 ok1 p σ' re' _ => p.now ok1 σ' re'⟩
theorem s_asg {vs : List Nat} {tg e : Expr} {m : Env' → M Wv} {t : Wv → Env' → M Env'} {pos : Pos} (he : PE X e (tM Γ E m)) (hg : PG X tg (gM Γ E vs t)) (hs : swapsWithSole [tg] e pos.line X.env = pure false := by rfl) (hw : swappedStores [tg] e X.env = pure none := by rfl)
    (h1 : (assignEach [tg] X.env).map (·.2) = [assign tg X.env] := by rfl) : PS X (.Assign [tg] e pos) (tS Γ E (mAsg m t)) := PSw (ps_asg he hg hs hw h1) fun D σ H q => tAsg_of q
theorem s_set {i : Nat} {x : Str} {e : Expr} {m : Env' → M Wv} {pos' pos : Pos} (hN : X.N.Nodup) (he : PE X e (tM Γ E m)) (hi : X.N[i]? = some x := by rfl) (hx : Loc X.env.scope x := by first | exact Or.inl rfl | exact Or.inr rfl)
    (hs : swapsWith e (some (.Name x pos')) pos.line X.env = pure false := by rfl) (hf : X.fn x = true ∨ X.env.scope.names.lookup x = some .local := by first | exact .inl rfl | exact .inr rfl) : PS X (.Assign [.Name x pos'] e pos) (tS Γ E (mAsg m (mSet i))) :=
  PSw (ps_set hN hi hx he hs hf) fun D σ H q => by
    refine At.bnd q fun w st G H1 ok ⟨env, re, p⟩ v rv => ?_
    exact p.now ok _ (re.set rv)
/-- a, b = x, y, plain local names -/
@[simp] def mPar (i j : Nat) (a : Env' → M (List Wv)) : Env' → M Fl := fun env => bnd (a env) fun ws => match ws with
  | [v, w] => ret (.nx ((env.set i (some v)).set j (some w)))
  | _ => bad
theorem s_par {i j : Nat} {x y : Str} {a b : Expr} {ma : Env' → M (List Wv)} {px py pt pos : Pos} {kt k2 pt2} (hN : X.N.Nodup) (ha : PA X [a, b] (aM Γ E ma)) (hi : X.N[i]? = some x := by rfl) (hj : X.N[j]? = some y := by rfl) (hij : i ≠ j := by decide)
    (hx : X.env.scope.names.lookup x = some .local := by rfl) (hy : X.env.scope.names.lookup y = some .local := by rfl) (hc : X.calm = true := by rfl)
    (hw : swappedStores [.Tuple [.Name x px, .Name y py] kt pt] (.Tuple [a, b] k2 pt2) X.env = pure (some [x, y]) := by rfl)
    (hs : swapsWithSole [.Tuple [.Name x px, .Name y py] kt pt] (.Tuple [a, b] k2 pt2) pos.line X.env = pure false := by rfl) :
    PS X (.Assign [.Tuple [.Name x px, .Name y py] kt pt] (.Tuple [a, b] k2 pt2) pos) (tS Γ E (mPar i j ma)) := PSw (ps_par hc hN hi hj hij hx hy ha hw hs) fun D σ H q => by
  obtain ⟨G, env, st, ok, re, p⟩ := q
  refine ⟨G, env, st, ok, re, p.bnd.imp fun ws st G H1 s1 ok p vs rvs => ?_⟩
  replace re := re.step s1
  cases rvs with
  | nil => exact p.elim
  | cons r1 t =>
    cases t with
    | nil => exact p.elim
    | cons r2 t =>
      cases t with
      | nil => exact ⟨_, _, rfl, p.now ok _ ((re.set r1).set r2)⟩
      | cons _ _ => exact p.elim
/-- x op= e -/
@[simp] def mAug (i : Nat) (o : Wv → Wv → M Wv) (m : Env' → M Wv) : Env' → M Fl := fun env => bnd (mVar i env) fun x => bnd (m env) fun y => bnd (o x y) fun z => ret (.nx (env.set i (some z)))
theorem s_augI {i : Nat} {x : Str} {e : Expr} {m : Env' → M Wv} {op : Operator} {f : Int → Int → Int} {pos' pos : Pos} (hN : X.N.Nodup) (he : PE X e (tM Γ E m)) (ho : PIp X op (ipI f)) (hi : X.N[i]? = some x := by rfl) (hx : Loc X.env.scope x := by first | exact Or.inl rfl | exact Or.inr rfl)
    (hf : X.fn x = true ∨ X.env.scope.names.lookup x = some .local := by first | exact .inl rfl | exact .inr rfl) :
    PS X (.AugAssign (.Name x pos') op e pos) (tS Γ E (mAug i (fun w u => bnd (intD w) fun a => bnd (intD u) fun b => ret (.d (.int (f a b)))) m)) := PSw (ps_aug hN hi hx he ho hf) fun D σ H q => by
  obtain ⟨G, env, st, ok, re, p⟩ := q
  unfold mAug mVar at p
  cases h : env[i]? with
  | none => simp only [h] at p; exact p.elim
  | some o =>
    cases o with
    | none => simp only [h] at p; exact p.elim
    | some w =>
      simp only [h] at p
      obtain ⟨v, h1, h2⟩ := re.2 i w h
      have p : Post Γ E G H (bnd (m env) _ st) (FlK Γ D) := p
      refine ⟨v, h1, G, env, st, ok, re, p.bnd.imp fun u st1 G1 H1 s1 ok1 p y ry => ?_⟩
      rw [bnd_assoc] at p
      obtain ⟨a, rfl, p⟩ := intD_inv (s1.val h2) p
      rw [bnd_assoc] at p
      obtain ⟨b, rfl, p⟩ := intD_inv ry p
      exact ⟨a, b, rfl, rfl, p.now ok1 _ ((re.step s1).set (.int _))⟩
end
end Bj

set_option Elab.async false
set_option linter.all false
set_option maxRecDepth 100000
set_option maxHeartbeats 1000000
/-! The mirror layer, part H: iterables, for, while, list comprehensions. -/
namespace Bj
open PySem PySem.Spec PyProof.Rows L2

/-! ### what is walked: the items are fixed ahead -/
/-- what is frozen stays -/
structure Keep (G : Gh) (H : Hp) (G' : Gh) (H' : Hp) : Prop where
  sub : ∀ a, G.S a → G'.S a
  frm : ∀ a o, G.S a → H a = some o → H' a = some o
theorem Step.keep {G G' : Gh} {H H' : Hp} (s : Step G H G' H') : Keep G H G' H' := ⟨s.sub, fun a o h e => s.frm a o e fun _ => h⟩
theorem Keep.refl {G : Gh} {H : Hp} : Keep G H G H := ⟨fun _ h => h, fun _ _ _ e => e⟩
theorem Keep.trans {G G' G'' : Gh} {H H' H'' : Hp} (a : Keep G H G' H') (b : Keep G' H' G'' H'') : Keep G H G'' H'' := ⟨fun x h => b.sub x (a.sub x h), fun x o h e => b.frm x o (a.sub x h) (a.frm x o h e)⟩
theorem Keep.data {Γ : Gam} {G G' : Gh} {H H' : Hp} {d : Py} {v : V} (s : Keep G H G' H') (h : Rep Γ G.S H d v) : Rep Γ G'.S H' d v := h.mono s.sub s.frm
structure WkD (Γ : Gam) (G : Gh) (H : Hp) (J : It) (items : List Py) : Prop where
  go : ∀ i G1 H1, Keep G H G1 H1 → i < items.length → J.go i H1
  stop : ∀ G1 H1, Keep G H G1 H1 → J.stop items.length H1
  yld : ∀ i G1 H1 st x H2, Keep G H G1 H1 → GOk Γ G1 H1 st → i < items.length → J.yld i H1 x H2 → ∃ G2 d, Step G1 H1 G2 H2 ∧ GOk Γ G2 H2 st ∧ items[i]? = some d ∧ Rep Γ G2.S H2 d x
def iM (Γ : Gam) (E : XK) (m : Env' → M (List Py)) : TI := fun σ H R => At Γ E m σ H fun items st' G' H' => ∀ J, WkD Γ G' H' J items → R J H'
section
variable {Γ : Gam} {E : XK} {X : Cx} {tg : Expr}
theorem PIw {e : Expr} {t t' : TI} (h : PI X tg e t) (w : ∀ σ H Q, t' σ H Q → t σ H Q) : PI X tg e t' := ⟨fun pins s σ H R I q => h.run pins s σ H R I (w σ H R q)⟩
theorem PI.or {e : Expr} {t t' : TI} (h : PI X tg e t) (h' : PI X tg e t') : PI X tg e (fun σ H R => t σ H R ∨ t' σ H R) := ⟨fun pins s σ H R I q => q.elim (h.run pins s σ H R I) (h'.run pins s σ H R I)⟩
theorem wk_of {G : Gh} {H : Hp} {J : It} {n : Nat} {P : Hp → Prop} {xs : List V} {items : List Py} (w : Walk J n P (YAt xs)) (hn : n = items.length) (hP : ∀ G1 H1, Keep G H G1 H1 → P H1) (r : RepL Γ G.S H items xs) : WkD Γ G H J items := by
  subst hn
  refine ⟨fun i G1 H1 s hi => w.goes i H1 hi (hP G1 H1 s), fun G1 H1 s => w.stops H1 (hP G1 H1 s), fun i G1 H1 st x H2 s ok hi y => ?_⟩
  obtain ⟨rfl, e⟩ := w.yields i H1 x H2 hi (hP G1 H1 s) y
  obtain ⟨d, h1, h2⟩ := r.at e
  exact ⟨G1, d, .refl, ok, h1, s.data h2⟩
theorem wk_list {G : Gh} {H : Hp} {K : PySem.W.Frag} {a : Addr} {xs : List V} {ds : List Py} (hs : G.S a) (h : Rd H a (.lst xs)) (r : RepL Γ G.S H ds xs) : WkD Γ G H (Itl K a) ds :=
  wk_of walk_list r.length.symm (fun G1 H1 s => Rd.sql (h.elim (fun h => .inl (s.frm _ _ hs h)) fun ⟨o, h⟩ => .inr ⟨o, s.frm _ _ hs h⟩)) r
theorem wk_tup {G : Gh} {H : Hp} {K : PySem.W.Frag} {a : Addr} {xs : List V} {ds : List Py} (hs : G.S a) (h : H a = some (.tup xs)) (r : RepL Γ G.S H ds xs) : WkD Γ G H (Itt K a) ds :=
  wk_of walk_tup r.length.symm (fun G1 H1 s => .of (s.frm _ _ hs h)) r
/-- the items of a frozen list, of a tuple -/
@[simp] def frzD : Wv → M (List Py)
  | .d (.lst l) => ret l
  | .d (.tup l) => ret l
  | _ => bad
@[simp] def mIt (f : Wv → M (List Py)) (m : Env' → M Wv) : Env' → M (List Py) := fun env => bnd (m env) f
theorem i_seq {e : Expr} {m : Env' → M Wv} (h : PE X e (tM Γ E m)) : PI X tg e (iM Γ E (mIt frzD m)) := ⟨fun pins s σ H R I q => by
  -- which of the two it is, is known at its own value only: both rules begin alike
  refine thn (h.run pins s σ H (fun v H1 => (∃ a, v = .ref a ∧ (∃ xs, SqL X.K H1 a xs) ∧ R (Itl X.K a) H1) ∨ ∃ a, v = .ref a ∧ (∃ xs, SqT X.K H1 a xs) ∧ R (Itt X.K a) H1) I ?_) fun v s1 ⟨x, H1, I1, r1, q1⟩ => ?_
  · refine At.bnd (f := fun w _ => frzD w) q fun w st G H1 ok ⟨env, re, p⟩ v rv => ?_
    cases w with
    | r n => exact p.elim
    | d x =>
      cases x with
      | lst l => cases rv with | lst s h t => exact .inl ⟨_, rfl, ⟨_, Rd.sql h⟩, p.now ok _ (wk_list s h t)⟩
      | tup l => cases rv with | tup s h t => exact .inr ⟨_, rfl, ⟨_, .of h⟩, p.now ok _ (wk_tup s h t)⟩
      | _ => exact p.elim
  · rcases q1 with ⟨a, e, ⟨xs, hq⟩, q⟩ | ⟨a, e, ⟨xs, hq⟩, q⟩
    · subst e
      cases r1
      obtain ⟨its, rv, p, hz⟩ := I1.list hq
      refine wpAny_pyIter_list p.isList ?_
      refine ⟨s1.heap.objs.size, [s1.heap.objs.size], _, _, H1, rfl, I1.kept (t' := s1.toks) fun b o e => Heap.get?_push_of_some _ e, turn_list a _, ⟨_, Heap.get?_push_size _ rfl, rfl, rfl⟩, fun b hb => ?_, q⟩
      have e : b = s1.heap.objs.size := by simpa using hb
      subst e
      exact I1.fpOk (Nat.le_refl _) (I1.hok.fresh (Nat.le_refl _))
    · subst e
      cases r1
      obtain ⟨its, rv, p, hz⟩ := I1.tuple hq
      refine wpAny_pyIter_tuple (show s1.heap.IsTuple a its.toArray from p) ?_
      refine ⟨s1.heap.objs.size, [s1.heap.objs.size], _, _, H1, rfl, I1.kept (t' := s1.toks) fun b o e => Heap.get?_push_of_some _ e, turn_tuple a _, ⟨_, Heap.get?_push_size _ rfl, rfl, rfl⟩, fun b hb => ?_, q⟩
      have e : b = s1.heap.objs.size := by simpa using hb
      subst e
      exact I1.fpOk (Nat.le_refl _) (I1.hok.fresh (Nat.le_refl _))⟩
/-- a text, sign by sign -/
def signs (s : Str) : List Py := s.cps.toList.map fun c => .str ⟨#[c]⟩
theorem i_str {e : Expr} {m : Env' → M Wv} (h : PE X e (tM Γ E m)) : PI X tg e (iM Γ E (mIt (fun w => bnd (strD w) fun s => ret (signs s)) m)) := PIw (pi_str h) fun σ H R q => by
  refine At.bnd (f := fun w _ => bnd (strD w) fun s => ret (signs s)) q fun w st G H1 ok ⟨env, re, p⟩ v rv => ?_
  obtain ⟨s, rfl, p⟩ := strD_inv rv p
  refine ⟨s, rfl, p.now ok _ ?_⟩
  have hl : (signs s).length = s.cps.size := by simp [signs]
  refine ⟨fun i G1 H1 _ hi => by rw [hl] at hi; exact hi, fun G1 H1 _ => by show s.cps.size ≤ _; rw [hl]; exact Nat.le_refl _, fun i G1 H1 st x H2 _ ok hi y => ?_⟩
  obtain ⟨rfl, c, e, rfl⟩ := y
  exact ⟨G1, _, .refl, ok, by simp [signs, e], .str _⟩
/-- range -/
def rng (lo hi : Int) : List Py := (List.range (hi - lo).toNat).map fun (i : Nat) => .int (lo + i)
theorem wk_rng {G : Gh} {H : Hp} {lo : Int} {n : Nat} : WkD Γ G H (Itr lo n) ((List.range n).map fun (i : Nat) => .int (lo + i)) := by
  refine ⟨fun i G1 H1 _ hi => (by simpa using hi : i < n), fun G1 H1 _ => (by simp : n ≤ _), fun i G1 H1 st x H2 _ ok hi y => ?_⟩
  obtain ⟨rfl, rfl⟩ := y
  have hi : i < n := by simpa using hi
  exact ⟨G1, .int (lo + i), .refl, ok, by simp [hi], .int _⟩
@[simp] def mR1 (a : Env' → M (List Wv)) : Env' → M (List Py) := fun env => bnd (a env) fun ws => match ws with
  | [w] => bnd (intD w) fun j => if -4000000000000000000 ≤ j ∧ j ≤ 4000000000000000000 then ret (rng 0 j) else bad
  | _ => bad
@[simp] def mR2 (a : Env' → M (List Wv)) : Env' → M (List Py) := fun env => bnd (a env) fun ws => match ws with
  | [w, u] => bnd (intD w) fun i => bnd (intD u) fun j => if -4000000000000000000 ≤ i ∧ i ≤ 4000000000000000000 ∧ -4000000000000000000 ≤ j ∧ j ≤ 4000000000000000000 then ret (rng i j) else bad
  | _ => bad
theorem i_rng1 {a : Expr} {ma : Env' → M (List Wv)} {p pos : Pos} (hm : X.mg "range" = none) (ha : PA X [a] (aM Γ E ma)) (hg : Gl X "range" := by rfl) (hs : starEach [a] X.env = [(false, eval a X.env)] := by rfl) :
    PI X tg (.Call (.Name "range" p) [a] [] pos) (iM Γ E (mR1 ma)) := PIw (pi_range1 hg hm ha hs) fun σ H R q => by
  obtain ⟨G, env, st, ok, re, p⟩ := q
  refine ⟨G, env, st, ok, re, p.bnd.imp fun ws st G H1 s1 ok p vs rvs => ?_⟩
  cases rvs with
  | nil => exact p.elim
  | cons r1 t =>
    cases t with
    | cons _ _ => exact p.elim
    | nil =>
      obtain ⟨j, rfl, p⟩ := intD_inv r1 p
      obtain ⟨⟨h1, h2⟩, p⟩ := p.iff
      refine ⟨j, rfl, by omega, by omega, p.now ok _ ?_⟩
      have e : rng 0 j = (List.range j.toNat).map fun (i : Nat) => .int (0 + i) := by unfold rng; rw [Int.sub_zero]
      rw [e]
      exact wk_rng
theorem i_rng2 {a b : Expr} {ma : Env' → M (List Wv)} {p pos : Pos} (hm : X.mg "range" = none) (ha : PA X [a, b] (aM Γ E ma)) (hg : Gl X "range" := by rfl) (hs : starEach [a, b] X.env = [(false, eval a X.env), (false, eval b X.env)] := by rfl) (hs2 : starEach [b] X.env = [(false, eval b X.env)] := by rfl) :
    PI X tg (.Call (.Name "range" p) [a, b] [] pos) (iM Γ E (mR2 ma)) := PIw (pi_range2 hg hm ha hs hs2) fun σ H R q => by
  obtain ⟨G, env, st, ok, re, p⟩ := q
  refine ⟨G, env, st, ok, re, p.bnd.imp fun ws st G H1 s1 ok p vs rvs => ?_⟩
  cases rvs with
  | nil => exact p.elim
  | cons r1 t =>
    cases t with
    | nil => exact p.elim
    | cons r2 t =>
      cases t with
      | cons _ _ => exact p.elim
      | nil =>
        obtain ⟨i, rfl, p⟩ := intD_inv r1 p
        obtain ⟨j, rfl, p⟩ := intD_inv r2 p
        obtain ⟨⟨h1, h2, h3, h4⟩, p⟩ := p.iff
        exact ⟨i, j, rfl, ⟨by omega, by omega, by omega, by omega⟩, p.now ok _ wk_rng⟩
/-- enumerate(xs) -/
def enumL : Nat → List Py → List Py
  | _, [] => []
  | i, x :: xs => .tup [.int i, x] :: enumL (i + 1) xs
theorem enumL_length : ∀ (n : Nat) (l : List Py), (enumL n l).length = l.length
  | _, [] => rfl
  | n, x :: xs => by simp [enumL, enumL_length (n + 1) xs]
theorem enumL_get : ∀ (n : Nat) (l : List Py) (i : Nat), (enumL n l)[i]? = l[i]?.map fun x => .tup [.int (n + i : Nat), x]
  | _, [], i => by simp [enumL]
  | n, x :: xs, 0 => by simp [enumL]
  | n, x :: xs, i + 1 => by
    have := enumL_get (n + 1) xs i
    simp only [enumL, List.getElem?_cons_succ, this]
    congr 1
    funext y
    congr 4
    omega
@[simp] def enumD : Wv → M (List Py)
  | .d (.lst l) => ret (enumL 0 l)
  | _ => bad
theorem i_enum {elts : List Expr} {kk : Nat} {e : Expr} {m : Env' → M Wv} {p pos tpos : Pos} (hm : X.mg "enumerate" = none) (h : PE X e (tM Γ E m)) (hg : Gl X "enumerate" := by rfl) (hs : starEach [e] X.env = [(false, eval e X.env)] := by rfl) :
    PI X (.Tuple elts kk tpos) (.Call (.Name "enumerate" p) [e] [] pos) (iM Γ E (mIt enumD m)) := PIw (pi_enum hg hm (pa_cons h pa_nil (hs.trans rfl)) hs) fun σ H R q => by
  refine At.bnd (f := fun w _ => enumD w) q fun w st G H1 ok ⟨env, re, p⟩ v rv => ?_
  cases w with
  | r n => exact p.elim
  | d x =>
    cases x with
    | lst l =>
      cases rv with
      | @lst a xs _ s h t =>
        refine ⟨a, xs, rfl, Rd.sql h, p.now ok _ ?_⟩
        have hq : ∀ G1 H1', Keep G H1 G1 H1' → SqL X.K H1' a xs := fun G1 H1' s1 => Rd.sql (h.elim (fun h => .inl (s1.frm _ _ s h)) fun ⟨o, h⟩ => .inr ⟨o, s1.frm _ _ s h⟩)
        have w := walk_enum (K := X.K) (a := a) (xs := xs)
        have hl : (enumL 0 l).length = xs.length := by rw [enumL_length, t.length]
        refine ⟨fun i G1 H2 s1 hi => w.goes i H2 (by omega) (hq G1 H2 s1), fun G1 H2 s1 => by rw [hl]; exact w.stops H2 (hq G1 H2 s1), fun i G1 H2 st x H3 s1 ok1 hi y => ?_⟩
        obtain ⟨T, z, x', rfl, hT, rfl, e1, e2⟩ := w.yields i H2 x H3 (by omega) (hq G1 H2 s1) y
        cases e1
        obtain ⟨d, h1, h2⟩ := t.at e2
        obtain ⟨s2, ok2⟩ := ok1.frozen (o := .tup [.int (i : Nat), x']) hT
        refine ⟨_, .tup [.int i, d], s2, ok2, by rw [enumL_get, h1]; simp, .tup (.inr rfl) upd_same (.cons (.int _) (.cons (s2.data (s1.data h2)) .nil))⟩
    | _ => exact p.elim

/-! ### for -/
def forL (t : Wv → Env' → M Env') (b : Env' → M Fl) : List Py → Env' → M Fl
  | [], env => ret (.nx env)
  | x :: xs, env => bnd (t (.d x) env) fun e1 => bnd (b e1) fun f => match f with
    | .nx e2 => forL t b xs e2
    | .ct e2 => forL t b xs e2
    | .bk e2 => ret (.nx e2)
    | .rt w => ret (.rt w)
@[simp] def mFor (it : Env' → M (List Py)) (t : Wv → Env' → M Env') (b : Env' → M Fl) : Env' → M Fl := fun env => bnd (it env) fun items => forL t b items env
theorem s_for {vs : List Nat} {iter : Expr} {body : List Stmt} {it : Env' → M (List Py)} {t : Wv → Env' → M Env'} {b : Env' → M Fl} {pos : Pos} (hp : PassesOwn (model X.prog X.w) X.A X.env X.xe) (hi : PI X tg iter (iM Γ E it)) (hg : PG X tg (gM Γ E vs t)) (hb : PSs X body (tS Γ E b))
    (hc : X.calm = true := by rfl) (hs : ∀ x, foldedSetIterable iter X.env x = pure x := by intro _; rfl) : PS X (.For tg iter body [] pos) (tS Γ E (mFor it t b)) := PSw (ps_for hp hc hi hg hb hs) fun D σ H q => by
  refine At.bnd q fun items st0 G0 H0 ok0 ⟨env0, re0, p0⟩ J wk => ?_
  refine ⟨fun i m σ H => m = items.length - i ∧ i ≤ items.length ∧ ∃ G env st, Step G0 H0 G H ∧ GOk Γ G H st ∧ REnv Γ G H env σ ∧ Post Γ E G H (forL t b (items.drop i) env st) (FlK Γ D),
    ⟨items.length, rfl, Nat.zero_le _, G0, env0, st0, .refl, ok0, re0, p0⟩, ?_⟩
  rintro i m σ H ⟨rfl, hi, G, env, st, s, ok, re, p⟩
  by_cases hlt : i < items.length
  · refine .inr ⟨wk.go i G H s.keep hlt, fun σ' H' => ∃ G env st, Step G0 H0 G H' ∧ GOk Γ G H' st ∧ REnv Γ G H' env σ' ∧ Post Γ E G H' (forL t b (items.drop (i + 1)) env st) (FlK Γ D),
      fun σ' H' q => ⟨items.length - (i + 1), by omega, rfl, hlt, q⟩, fun x H1 y => ?_⟩
    obtain ⟨G1, d, s1, ok1, hd, rd⟩ := wk.yld i G H st x H1 s.keep ok hlt y
    have ed : items.drop i = d :: items.drop (i + 1) := by
      obtain ⟨hl, e⟩ := List.getElem?_eq_some_iff.mp hd
      rw [List.drop_eq_getElem_cons hl, e]
    rw [ed] at p
    have p : Post Γ E G H (bnd (t (.d d) env) (fun e1 => bnd (b e1) fun f => match f with
      | .nx e2 => forL t b (items.drop (i + 1)) e2
      | .ct e2 => forL t b (items.drop (i + 1)) e2
      | .bk e2 => ret (.nx e2)
      | .rt w => ret (.rt w)) st) (FlK Γ D) := p
    refine ⟨G1, env, st, .d d, ok1, re.step s1, rd, (p.step s1).bnd.imp fun e st2 G2 H2 s2 ok2 p σ2 re2 _ => ?_⟩
    refine ⟨G2, e, st2, ok2, re2, p.bnd.imp fun f st3 G3 H3 s3 ok3 p => ?_⟩
    have st : Step G0 H0 G3 H3 := ((s.trans s1).trans s2).trans s3
    cases f with
    | nx e2 => exact fun σ3 re3 => ⟨G3, e2, st3, st, ok3, re3, p⟩
    | ct e2 => exact fun σ3 re3 => ⟨G3, e2, st3, st, ok3, re3, p⟩
    | bk e2 => exact fun σ3 re3 => p.now ok3 _ re3
    | rt w => exact fun v rv => p.now ok3 _ rv
  · have e : i = items.length := by omega
    subst e
    rw [List.drop_length] at p
    exact .inl ⟨wk.stop G H s.keep, p.now ok _ re⟩

/-! ### while -/
def whl (c : Env' → M Bool) (b : Env' → M Fl) : Nat → Env' → M Fl
  | 0, _ => bad
  | n + 1, env => bnd (c env) fun k => if k then bnd (b env) fun f => match f with
    | .nx e2 => whl c b n e2
    | .ct e2 => whl c b n e2
    | .bk e2 => ret (.nx e2)
    | .rt w => ret (.rt w) else ret (.nx env)
theorem s_while {c : Expr} {body : List Stmt} {mc : Env' → M Bool} {b : Env' → M Fl} {pos : Pos} (n : Nat) (hp : PassesOwn (model X.prog X.w) X.A X.env X.xe) (hc : PT X c (tB' Γ E mc)) (hb : PSs X body (tS Γ E b)) : PS X (.While c body [] pos) (tS Γ E (whl mc b n)) :=
  PSw (ps_while hp hc hb) fun D σ H q => by
    refine ⟨fun m σ H => ∃ G env st, GOk Γ G H st ∧ REnv Γ G H env σ ∧ Post Γ E G H (whl mc b m env st) (FlK Γ D), ⟨n, q⟩, ?_⟩
    rintro m σ H ⟨G, env, st, ok, re, p⟩
    cases m with
    | zero => exact p.elim
    | succ m =>
      refine ⟨G, env, st, ok, re, (show Post Γ E G H (bnd (mc env) _ st) _ from p).bnd.imp fun k st1 G1 H1 s1 ok1 p => ?_⟩
      cases k with
      | false => exact p.now ok1 _ (re.step s1)
      | true =>
        refine ⟨fun σ' H' => ∃ G env st, GOk Γ G H' st ∧ REnv Γ G H' env σ' ∧ Post Γ E G H' (whl mc b m env st) (FlK Γ D), fun σ' H' q => ⟨m, Nat.lt_succ_self _, q⟩, ?_⟩
        refine ⟨G1, env, st1, ok1, re.step s1, (show Post Γ E G1 H1 (bnd (b env) _ st1) _ from p).bnd.imp fun f st3 G3 H3 s3 ok3 p => ?_⟩
        cases f with
        | nx e2 => exact fun σ3 re3 => ⟨G3, e2, st3, ok3, re3, p⟩
        | ct e2 => exact fun σ3 re3 => ⟨G3, e2, st3, ok3, re3, p⟩
        | bk e2 => exact fun σ3 re3 => p.now ok3 _ re3
        | rt w => exact fun v rv => p.now ok3 _ rv
end
end Bj

set_option Elab.async false
set_option linter.all false
set_option maxRecDepth 100000
set_option maxHeartbeats 1000000
/-! The mirror layer, part I: list comprehensions. -/
namespace Bj
open PySem PySem.Spec PyProof.Rows L2

/-- nothing may be raised -/
def noEx {α : Type} (m : M α) : M α := fun st => match m st with
  | .ok a st' => .ok a st'
  | _ => .bad
@[simp] def datD : Wv → M Py
  | .d x => ret x
  | _ => bad
def wipeV (env : Env') : List Nat → Env'
  | [] => env
  | v :: vs => (wipeV env vs).set v none
/-- the items made, k of them so far -/
def lcL (t : Wv → Env' → M Env') (tt : Env' → M Bool) (te : Env' → M Wv) (env : Env') : Nat → List Py → M (List Py)
  | _, [] => ret []
  | k, x :: xs => bnd (t (.d x) env) fun e1 => bnd (tt e1) fun b => if b then (if k < 1000000 then bnd (te e1) fun w => bnd (datD w) fun y => bnd (lcL t tt te env (k + 1) xs) fun ys => ret (y :: ys) else bad) else lcL t tt te env k xs
def mLc (vs : List Nat) (it : Env' → M (List Py)) (t : Wv → Env' → M Env') (tt : Env' → M Bool) (te : Env' → M Wv) : Env' → M Wv := fun env => bnd (it env) fun items => bnd (noEx (lcL t tt te (wipeV env vs) 0 items)) fun ys => ret (.d (.lst ys))
/-- no test -/
@[simp] def mYes : Env' → M Bool := fun _ => ret true
section
variable {Γ : Gam} {E : XK} {X : Cx} {tg : Expr}
theorem noEx_inv {α β : Type} {G : Gh} {H : Hp} {st : Store} {m : M α} {f : α → M β} {K : β → Store → Gh → Hp → Prop} (p : Post Γ E G H (bnd (noEx m) f st) K) : Post Γ E0 G H (m st) fun a st' G' H' => Post Γ E G' H' (f a st') K := by
  unfold bnd noEx at p
  cases e : m st with
  | ok a st' => simp only [e] at p; exact fun G' H' s ok => p.step s
  | ex x st' => simp only [e] at p; exact p.elim
  | bad => simp only [e] at p; exact p.elim
theorem Post.base {α β : Type} {G G1 : Gh} {H H1 : Hp} {st : Store} {m : M α} {f : α → M β} {K : β → Store → Gh → Hp → Prop} (s : Step G H G1 H1) (p : Post Γ E G H (Bj.bnd m f st) K) : Post Γ E G1 H1 (m st) fun a st' _ _ => Post Γ E G H (f a st') K := by
  unfold Bj.bnd at p
  cases e : m st with
  | ok a st' => rw [e] at p; exact fun G' H' _ _ => p
  | ex x st' => rw [e] at p; exact fun G' H' c dx s1 ok => p G' H' c dx (s.trans s1) ok
  | bad => rw [e] at p; exact p
theorem REnv.wipe {G : Gh} {H : Hp} {env : Env'} {σ : L2.St} (re : REnv Γ G H env σ) : ∀ vs, REnv Γ G H (wipeV env vs) (L2.wipe σ vs)
  | [] => re
  | v :: vs => (re.wipe vs).unset v
theorem t_yes : PTs X [] (tB' Γ E mYes) := ⟨fun pins s σ H Q I q => pts_nil.run pins s σ H Q I (by
  obtain ⟨G, env, st, ok, re, p⟩ := q
  exact p.now ok)⟩
theorem t_one {c : Expr} {m : Env' → M Bool} (h : PT X c (tB' Γ E m)) : PTs X [c] (tB' Γ E m) := pts_one h
theorem datD_inv {α : Type} {G G0 : Gh} {H H0 : Hp} {st : Store} {w : Wv} {v : V} {f : Py → M α} {K : α → Store → Gh → Hp → Prop} (r : RepW Γ G H w v) (p : Post Γ E G0 H0 (bnd (datD w) f st) K) : ∃ x, Rep Γ G.S H x v ∧ Post Γ E G0 H0 (f x st) K := by
  cases w with
  | d x => exact ⟨x, r, p⟩
  | r n => exact p.elim
/-- the list that grows, beside what the mirror knows -/
structure LcS (G0 : Gh) (H0 : Hp) (D : Addr) (Γ : Gam) (G : Gh) (H : Hp) (st : Store) (acc : List V) (done : List Py) : Prop where
  step : Step G0 H0 G H
  ok : GOk Γ G H st
  at_ : H D = some (.lst acc)
  nS : ¬ G.S D
  nP : D ∉ G.π
  rep : RepL Γ G.S H done acc
/-- frozen at last -/
theorem GOk.freeze {G : Gh} {H : Hp} {st : Store} {D : Addr} {o : HO} (ok : GOk Γ G H st) (h : H D = some o) (nP : D ∉ G.π) : GOk Γ ⟨fun a => G.S a ∨ a = D, G.π⟩ H st := by
  refine ⟨ok.len, ok.nd, fun a h' => ?_, fun n a c e1 e2 => ?_⟩
  · rcases h' with (h' | h') | h'
    · exact ok.tr a (.inl h')
    · subst h'; rw [h]; simp
    · exact ok.tr a (.inr h')
  · have q := ok.cells n a c e1 e2
    have hap : a ≠ D := fun e => nP (e ▸ List.mem_of_getElem? e1)
    have rv : ∀ {w v}, RepW Γ G H w v → RepW Γ ⟨fun a => G.S a ∨ a = D, G.π⟩ H w v := fun {w v} r => by
      cases w with
      | d x => exact Rep.mono (fun _ h => .inl h) (fun _ _ _ h => h) r
      | r n => exact r
    cases c with
    | dead => trivial
    | lst ws =>
      obtain ⟨h1, xs, h2, h3⟩ := q
      exact ⟨fun z => z.elim h1 hap, xs, h2, Paired.imp h3 fun _ _ r => rv r⟩
    | obj c fs =>
      obtain ⟨h1, dx, gs, h2, h3⟩ := q
      exact ⟨fun z => z.elim h1 hap, dx, gs, h2, Paired.imp h3 fun _ _ r => ⟨r.1, rv r.2⟩⟩
theorem freeze_step {G0 G : Gh} {H0 H : Hp} {D : Addr} (s : Step G0 H0 G H) (hD : H0 D = none) : Step G0 H0 ⟨fun a => G.S a ∨ a = D, G.π⟩ H :=
  ⟨s.pre, fun a h => .inl (s.sub a h), s.frm, fun a h => by
    rcases h with (h | h) | h
    · exact s.new a (.inl h)
    · subst h; exact .inr (.inr hD)
    · exact s.new a (.inr h)⟩
/-- H with an untracked-by-us object written -/
theorem GOk.other {G : Gh} {H : Hp} {st : Store} {D : Addr} {o : HO} (ok : GOk Γ G H st) (nS : ¬ G.S D) (nP : D ∉ G.π) :
    (∀ {w v}, RepW Γ G H w v → RepW Γ G (upd H D o) w v) ∧ (∀ {d v}, RepL Γ G.S H d v → RepL Γ G.S (upd H D o) d v) ∧ GOk Γ G (upd H D o) st := by
  have hk : ∀ a u, G.S a → H a = some u → upd H D o a = some u := fun a u hs e => by rw [upd_ne (fun z => nS (by rw [← z]; exact hs))]; exact e
  have rv : ∀ {w v}, RepW Γ G H w v → RepW Γ G (upd H D o) w v := fun {w v} r => by
    cases w with
    | d x => exact Rep.mono (fun _ h => h) hk r
    | r n => exact r
  refine ⟨rv, fun r => RepL.mono (fun _ h => h) hk r, ok.len, ok.nd, fun a h' => ?_, fun n a c e1 e2 => ?_⟩
  · by_cases ha : a = D
    · subst ha; rw [upd_same]; simp
    · rw [upd_ne ha]; exact ok.tr a h'
  · have q := ok.cells n a c e1 e2
    have hap : a ≠ D := fun e => nP (e ▸ List.mem_of_getElem? e1)
    cases c with
    | dead => trivial
    | lst ws =>
      obtain ⟨h1, xs, h2, h3⟩ := q
      exact ⟨h1, xs, by rw [upd_ne hap]; exact h2, Paired.imp h3 fun _ _ r => rv r⟩
    | obj c fs =>
      obtain ⟨h1, dx, gs, h2, h3⟩ := q
      exact ⟨h1, dx, gs, by rw [upd_ne hap]; exact h2, Paired.imp h3 fun _ _ r => ⟨r.1, rv r.2⟩⟩
theorem other_step {G0 G : Gh} {H0 H : Hp} {D : Addr} {o : HO} (s : Step G0 H0 G H) (hD : H0 D = none) : Step G0 H0 G (upd H D o) :=
  ⟨s.pre, s.sub, fun a u e k => by rw [upd_ne (ne_of_none e hD)]; exact s.frm a u e k, s.new⟩
theorem LcS.start {G : Gh} {H : Hp} {D : Addr} {st : Store} (ok : GOk Γ G H st) (hD : H D = none) : LcS G H D Γ G (upd H D (.lst [])) st [] [] := by
  have nS : ¬ G.S D := fun h => ok.tr D (.inl h) hD
  have nP : D ∉ G.π := fun h => ok.tr D (.inr h) hD
  exact ⟨other_step .refl hD, (ok.other nS nP).2.2, upd_same, nS, nP, .nil⟩
theorem LcS.go {G0 : Gh} {H0 : Hp} {D : Addr} {G G' : Gh} {H H' : Hp} {st st' : Store} {acc : List V} {done : List Py} (l : LcS G0 H0 D Γ G H st acc done) (s : Step G H G' H') (ok : GOk Γ G' H' st') : LcS G0 H0 D Γ G' H' st' acc done := by
  have nn : ¬ (G'.S D ∨ D ∈ G'.π) := fun h => by
    rcases s.new D h with h | h | h
    · exact l.nS h
    · exact l.nP h
    · rw [l.at_] at h; cases h
  exact ⟨l.step.trans s, ok, s.frm _ _ l.at_ fun m => absurd m l.nP, fun h => nn (.inl h), fun h => nn (.inr h), s.dataL l.rep⟩
theorem RepL.snoc {S : Addr → Prop} {H : Hp} {ds : List Py} {xs : List V} {d : Py} {x : V} (r : RepL Γ S H ds xs) (q : Rep Γ S H d x) : RepL Γ S H (ds ++ [d]) (xs ++ [x]) := r.append (.cons q .nil)
theorem LcS.add {G0 : Gh} {H0 : Hp} {D : Addr} {G : Gh} {H : Hp} {st : Store} {acc : List V} {done : List Py} {d : Py} {x : V} (l : LcS G0 H0 D Γ G H st acc done) (hD : H0 D = none) (r : Rep Γ G.S H d x) :
    LcS G0 H0 D Γ G (upd H D (.lst (acc ++ [x]))) st (acc ++ [x]) (done ++ [d]) := by
  obtain ⟨_, rl, ok⟩ := l.ok.other (o := .lst (acc ++ [x])) l.nS l.nP
  exact ⟨other_step l.step hD, ok, upd_same, l.nS, l.nP, rl (l.rep.snoc r)⟩
/-- the slots go over to the changed heap -/
theorem REnv.other {G : Gh} {H : Hp} {st : Store} {D : Addr} {o : HO} {env : Env'} {σ : L2.St} (re : REnv Γ G H env σ) (ok : GOk Γ G H st) (nS : ¬ G.S D) (nP : D ∉ G.π) : REnv Γ G (upd H D o) env σ :=
  ⟨re.1, fun i w e => let ⟨v, h1, h2⟩ := re.2 i w e; ⟨v, h1, (ok.other nS nP).1 h2⟩⟩
theorem tLc_of {vs : List Nat} {it : Env' → M (List Py)} {t : Wv → Env' → M Env'} {tt : Env' → M Bool} {te : Env' → M Wv} {σ : L2.St} {H : Hp} {Q : VK} (q : tM Γ E (mLc vs it t tt te) σ H Q) :
    tLc (iM Γ E it) (gM Γ E0 vs t) (tB' Γ E0 tt) (tM Γ E0 te) vs σ H Q := by
  refine At.bnd q fun items st0 G0 H0 ok0 ⟨env0, re0, p0⟩ J wk => ?_
  intro D hD
  have p0 := noEx_inv p0
  refine ⟨fun i m H => m = items.length - i ∧ i ≤ items.length ∧ ∃ G st acc done k, LcS G0 H0 D Γ G H st acc done ∧ done.length ≤ k ∧ REnv Γ G H (wipeV env0 vs) (wipe σ vs) ∧
      Post Γ E0 G0 H0 (bnd (lcL t tt te (wipeV env0 vs) k (items.drop i)) (fun ys => ret (done ++ ys)) st) (fun ys st' G' H' => Post Γ E G' H' (ret (.d (.lst ys)) st') fun z st' G' H' => ∀ v, RepW Γ G' H' z v → Q v H'),
    ⟨items.length, rfl, Nat.zero_le _, G0, st0, [], [], 0, LcS.start ok0 hD, Nat.le_refl _, ?_, ?_⟩, ?_⟩
  · have nS : ¬ G0.S D := fun h => ok0.tr D (.inl h) hD
    have nP : D ∉ G0.π := fun h => ok0.tr D (.inr h) hD
    exact (re0.wipe vs).other ok0 nS nP
  · have e : bnd (lcL t tt te (wipeV env0 vs) 0 (items.drop 0)) (fun ys => ret ([] ++ ys)) = lcL t tt te (wipeV env0 vs) 0 items := by
      funext st
      unfold bnd
      rw [List.drop_zero]
      cases lcL t tt te (wipeV env0 vs) 0 items st <;> rfl
    rw [e]
    exact p0
  rintro i m H ⟨rfl, hi, G, st, acc, done, k, l, hk, re, p⟩
  by_cases hlt : i < items.length
  · refine .inr ⟨wk.go i G H l.step.keep hlt, fun H' => ∃ G st acc done k, LcS G0 H0 D Γ G H' st acc done ∧ done.length ≤ k ∧ REnv Γ G H' (wipeV env0 vs) (wipe σ vs) ∧
      Post Γ E0 G0 H0 (bnd (lcL t tt te (wipeV env0 vs) k (items.drop (i + 1))) (fun ys => ret (done ++ ys)) st) (fun ys st' G' H' => Post Γ E G' H' (ret (.d (.lst ys)) st') fun z st' G' H' => ∀ v, RepW Γ G' H' z v → Q v H'),
      fun H' q => ⟨items.length - (i + 1), by omega, rfl, hlt, q⟩, fun x H1 y => ?_⟩
    obtain ⟨G1, d, s1, ok1, hd, rd⟩ := wk.yld i G H st x H1 l.step.keep l.ok hlt y
    have ed : items.drop i = d :: items.drop (i + 1) := by
      obtain ⟨hl, e⟩ := List.getElem?_eq_some_iff.mp hd
      rw [List.drop_eq_getElem_cons hl, e]
    rw [ed] at p
    have l1 := l.go s1 ok1
    have re1 := re.step s1
    unfold lcL at p
    rw [bnd_assoc] at p
    refine ⟨G1, _, st, .d d, ok1, re1, rd, (p.base l1.step).imp fun e st2 G2 H2 s2 ok2 p σ2 re2 on => ?_⟩
    show wipe σ2 vs = wipe σ vs ∧ _
    refine ⟨on.wipe.trans wipe_only.wipe, ?_⟩
    rw [bnd_assoc] at p
    have l2 := l1.go s2 ok2
    refine ⟨G2, e, st2, ok2, re2, (p.base l2.step).imp fun b st3 G3 H3 s3 ok3 p => ?_⟩
    have l3 := l2.go s3 ok3
    cases b with
    | false => exact ⟨_, _, _, _, _, l3, hk, (re1.step s2).step s3, p⟩
    | true =>
      simp only [if_true] at p ⊢
      by_cases hk2 : k < 1000000
      · rw [if_pos hk2, bnd_assoc] at p
        refine ⟨G3, e, st3, ok3, re2.step s3, (p.base l3.step).imp fun w st4 G4 H4 s4 ok4 p v rv => ?_⟩
        rw [bnd_assoc] at p
        obtain ⟨y, ry, p⟩ := datD_inv rv p
        rw [bnd_assoc] at p
        have l4 := l3.go s4 ok4
        have hacc : acc.length = done.length := l4.rep.length.symm
        refine ⟨acc, l4.at_, by rw [hacc]; exact sz' (Nat.lt_of_le_of_lt hk hk2), ?_⟩
        have l5 := l4.add hD ry
        refine ⟨_, _, _, _, k + 1, l5, by rw [List.length_append]; simp; exact hk, (((re1.step s2).step s3).step s4).other ok4 l4.nS l4.nP, ?_⟩
        have e2 : (bnd (lcL t tt te (wipeV env0 vs) (k + 1) (items.drop (i + 1))) fun ys => bnd (ret (y :: ys)) fun ys => ret (done ++ ys)) = bnd (lcL t tt te (wipeV env0 vs) (k + 1) (items.drop (i + 1))) fun ys => ret (done ++ [y] ++ ys) := by
          congr 1
          funext ys
          rw [bnd_ret, List.append_assoc]
          rfl
        rw [e2] at p
        exact p
      · rw [if_neg hk2] at p
        exact p.elim
  · have e : i = items.length := by omega
    subst e
    rw [List.drop_length] at p
    refine .inl ⟨wk.stop G H l.step.keep, ?_⟩
    have p : Post Γ E0 G0 H0 (ret (done ++ []) st) _ := p
    rw [List.append_nil] at p
    have okF := l.ok.freeze l.at_ l.nP
    have sF := freeze_step l.step hD
    exact (p _ _ sF okF).now okF _ (.lst (.inr rfl) (.inl l.at_) (RepL.mono (fun _ h => .inl h) (fun _ _ _ h => h) l.rep))
/-- a comprehension's block: the names, the parts in it -/
theorem e_lc {elt iter : Expr} {ifs : List Expr} {scope : Scope} {own : List (Str × Nat)} {pos : Pos} {it : Env' → M (List Py)} {t : Wv → Env' → M Env'} {tt : Env' → M Bool} {te : Env' → M Wv} (hN : X.N.Nodup) (ok : BlkOk X.N X.env.scope scope own) (hi : PI X tg iter (iM Γ E it))
    (hg : ∀ (s : Shared) (H : Hp) (C : Addr) (cl : List (Str × Addr)) (fp : List Addr), PG (X.blk s H scope (compEnvC scope cl C X.env) fp) tg (gM Γ E0 (own.map (·.2)) t)) (ht : ∀ (s : Shared) (H : Hp) (C : Addr) (cl : List (Str × Addr)) (fp : List Addr), PTs (X.blk s H scope (compEnvC scope cl C X.env) fp) ifs (tB' Γ E0 tt))
    (he : ∀ (s : Shared) (H : Hp) (C : Addr) (cl : List (Str × Addr)) (fp : List Addr), PE (X.blk s H scope (compEnvC scope cl C X.env) fp) elt (tM Γ E0 te)) (hc : X.calm = true := by rfl) (hs : ∀ x, foldedSetIterable iter X.env x = pure x := by intro _; rfl) :
    PE X (.ListComp elt [⟨tg, iter, ifs, 0⟩] scope pos) (tM Γ E (mLc (own.map (·.2)) it t tt te)) := PEw (pe_lc hc hN hi ok hg ht he hs) fun σ H Q q => tLc_of q
/-- name = [..] on one line -/
theorem s_setLc {i : Nat} {y : Str} {py : Pos} {elt iter : Expr} {ifs : List Expr} {scope : Scope} {own : List (Str × Nat)} {pos spos : Pos} {it : Env' → M (List Py)} {t : Wv → Env' → M Env'} {tt : Env' → M Bool} {te : Env' → M Wv} (hN : X.N.Nodup) (ok : BlkOk X.N X.env.scope scope own) (hi : PI X tg iter (iM Γ E it))
    (hg : ∀ (s : Shared) (H : Hp) (C : Addr) (cl : List (Str × Addr)) (fp : List Addr), PG (X.blk s H scope (compEnvC scope cl C X.env) fp) tg (gM Γ E0 (own.map (·.2)) t)) (ht : ∀ (s : Shared) (H : Hp) (C : Addr) (cl : List (Str × Addr)) (fp : List Addr), PTs (X.blk s H scope (compEnvC scope cl C X.env) fp) ifs (tB' Γ E0 tt))
    (he : ∀ (s : Shared) (H : Hp) (C : Addr) (cl : List (Str × Addr)) (fp : List Addr), PE (X.blk s H scope (compEnvC scope cl C X.env) fp) elt (tM Γ E0 te))
    (hsw : swapsWith (.ListComp elt [⟨tg, iter, ifs, 0⟩] scope pos) (some (.Name y py)) spos.line X.env = pure true) (hy : X.N[i]? = some y := by rfl) (hyl : X.env.scope.names.lookup y = some .local := by rfl) (hc : X.calm = true := by rfl)
    (hs : ∀ x, foldedSetIterable iter X.env x = pure x := by intro _; rfl) : PS X (.Assign [.Name y py] (.ListComp elt [⟨tg, iter, ifs, 0⟩] scope pos) spos) (tS Γ E (mAsg (mLc (own.map (·.2)) it t tt te) (mSet i))) :=
  PSw (ps_setLc hc hN hy hyl hsw hi ok hg ht he hs) fun D σ H q => by
    refine tLc_of (At.bnd q fun w st G H1 ok ⟨env, re, p⟩ v rv => ?_)
    exact p.now ok _ (re.set rv)

/-! ### two clauses -/
def lc2L (t : Wv → Env' → M Env') (tt : Env' → M Bool) (it1 : Env' → M (List Py)) (vs1 : List Nat) (t1 : Wv → Env' → M Env') (tt1 : Env' → M Bool) (te : Env' → M Wv) (env : Env') : Nat → List Py → M (List Py)
  | _, [] => ret []
  | k, x :: xs => bnd (t (.d x) env) fun e1 => bnd (tt e1) fun b => if b then bnd (it1 e1) fun items1 => bnd (lcL t1 tt1 te (wipeV e1 vs1) k items1) fun ys => bnd (lc2L t tt it1 vs1 t1 tt1 te env (k + ys.length) xs) fun zs => ret (ys ++ zs) else lc2L t tt it1 vs1 t1 tt1 te env k xs
def mLc2 (vs vs1 : List Nat) (it : Env' → M (List Py)) (t : Wv → Env' → M Env') (tt : Env' → M Bool) (it1 : Env' → M (List Py)) (t1 : Wv → Env' → M Env') (tt1 : Env' → M Bool) (te : Env' → M Wv) : Env' → M Wv := fun env => bnd (it env) fun items =>
  bnd (noEx (lc2L t tt it1 vs1 t1 tt1 te (wipeV env vs) 0 items)) fun ys => ret (.d (.lst ys))
theorem tLc2_of {vs vs1 : List Nat} {it it1 : Env' → M (List Py)} {t t1 : Wv → Env' → M Env'} {tt tt1 : Env' → M Bool} {te : Env' → M Wv} {σ : L2.St} {H : Hp} {Q : VK} (q : tM Γ E (mLc2 vs vs1 it t tt it1 t1 tt1 te) σ H Q) :
    tLc2 (iM Γ E it) (gM Γ E0 vs t) (tB' Γ E0 tt) (iM Γ E0 it1) (gM Γ E0 vs1 t1) (tB' Γ E0 tt1) (tM Γ E0 te) vs vs1 σ H Q := by
  refine At.bnd q fun items st0 G0 H0 ok0 ⟨env0, re0, p0⟩ J wk => ?_
  intro D hD
  have p0 := noEx_inv p0
  refine ⟨fun i m H => m = items.length - i ∧ i ≤ items.length ∧ ∃ G st acc done k, LcS G0 H0 D Γ G H st acc done ∧ done.length ≤ k ∧ REnv Γ G H (wipeV env0 vs) (wipe σ vs) ∧
      Post Γ E0 G0 H0 (bnd (lc2L t tt it1 vs1 t1 tt1 te (wipeV env0 vs) k (items.drop i)) (fun ys => ret (done ++ ys)) st) (fun ys st' G' H' => Post Γ E G' H' (ret (.d (.lst ys)) st') fun z st' G' H' => ∀ v, RepW Γ G' H' z v → Q v H'),
    ⟨items.length, rfl, Nat.zero_le _, G0, st0, [], [], 0, LcS.start ok0 hD, Nat.le_refl _, ?_, ?_⟩, ?_⟩
  · have nS : ¬ G0.S D := fun h => ok0.tr D (.inl h) hD
    have nP : D ∉ G0.π := fun h => ok0.tr D (.inr h) hD
    exact (re0.wipe vs).other ok0 nS nP
  · have e : bnd (lc2L t tt it1 vs1 t1 tt1 te (wipeV env0 vs) 0 (items.drop 0)) (fun ys => ret ([] ++ ys)) = lc2L t tt it1 vs1 t1 tt1 te (wipeV env0 vs) 0 items := by
      funext st
      unfold bnd
      rw [List.drop_zero]
      cases lc2L t tt it1 vs1 t1 tt1 te (wipeV env0 vs) 0 items st <;> rfl
    rw [e]
    exact p0
  rintro i m H ⟨rfl, hi, G, st, acc, done, k, l, hk, re, p⟩
  by_cases hlt : i < items.length
  · refine .inr ⟨wk.go i G H l.step.keep hlt, fun H' => ∃ G st acc done k, LcS G0 H0 D Γ G H' st acc done ∧ done.length ≤ k ∧ REnv Γ G H' (wipeV env0 vs) (wipe σ vs) ∧
      Post Γ E0 G0 H0 (bnd (lc2L t tt it1 vs1 t1 tt1 te (wipeV env0 vs) k (items.drop (i + 1))) (fun ys => ret (done ++ ys)) st) (fun ys st' G' H' => Post Γ E G' H' (ret (.d (.lst ys)) st') fun z st' G' H' => ∀ v, RepW Γ G' H' z v → Q v H'),
      fun H' q => ⟨items.length - (i + 1), by omega, rfl, hlt, q⟩, fun x H1 y => ?_⟩
    obtain ⟨G1, d, s1, ok1, hd, rd⟩ := wk.yld i G H st x H1 l.step.keep l.ok hlt y
    have ed : items.drop i = d :: items.drop (i + 1) := by
      obtain ⟨hl, e⟩ := List.getElem?_eq_some_iff.mp hd
      rw [List.drop_eq_getElem_cons hl, e]
    rw [ed] at p
    have l1 := l.go s1 ok1
    have re1 := re.step s1
    unfold lc2L at p
    rw [bnd_assoc] at p
    refine ⟨G1, _, st, .d d, ok1, re1, rd, (p.base l1.step).imp fun e st2 G2 H2 s2 ok2 p σ2 re2 on => ?_⟩
    show wipe σ2 vs = wipe σ vs ∧ _
    refine ⟨on.wipe.trans wipe_only.wipe, ?_⟩
    rw [bnd_assoc] at p
    have l2 := l1.go s2 ok2
    refine ⟨G2, e, st2, ok2, re2, (p.base l2.step).imp fun b st3 G3 H3 s3 ok3 p => ?_⟩
    have l3 := l2.go s3 ok3
    cases b with
    | false => exact ⟨_, _, _, _, _, l3, hk, (re1.step s2).step s3, p⟩
    | true =>
      simp only [if_true] at p ⊢
      rw [bnd_assoc] at p
      refine ⟨G3, e, st3, ok3, re2.step s3, (p.base l3.step).imp fun items1 st4 G4 H4 s4 ok4 p J1 wk1 => ?_⟩
      have l4 := l3.go s4 ok4
      rw [bnd_assoc] at p
      have re4 := ((re1.step s2).step s3).step s4
      have re4' := (re2.step s3).step s4
      have fin : ∀ {G H st acc done k}, LcS G0 H0 D Γ G H st acc done → done.length ≤ k → REnv Γ G H (wipeV env0 vs) (wipe σ vs) →
          Post Γ E0 G0 H0 (bnd (lc2L t tt it1 vs1 t1 tt1 te (wipeV env0 vs) k (items.drop (i + 1))) (fun ys => ret (done ++ ys)) st) (fun ys st' G' H' => Post Γ E G' H' (ret (.d (.lst ys)) st') fun z st' G' H' => ∀ v, RepW Γ G' H' z v → Q v H') →
          ∃ G st acc done k, LcS G0 H0 D Γ G H st acc done ∧ done.length ≤ k ∧ REnv Γ G H (wipeV env0 vs) (wipe σ vs) ∧
          Post Γ E0 G0 H0 (bnd (lc2L t tt it1 vs1 t1 tt1 te (wipeV env0 vs) k (items.drop (i + 1))) (fun ys => ret (done ++ ys)) st) (fun ys st' G' H' => Post Γ E G' H' (ret (.d (.lst ys)) st') fun z st' G' H' => ∀ v, RepW Γ G' H' z v → Q v H') :=
        fun l hk re p => ⟨_, _, _, _, _, l, hk, re, p⟩
      refine ⟨fun j m1 H => m1 = items1.length - j ∧ j ≤ items1.length ∧ ∃ G st acc done k, LcS G0 H0 D Γ G H st acc done ∧ Keep G4 H4 G H ∧ done.length ≤ k ∧ REnv Γ G H (wipeV env0 vs) (wipe σ vs) ∧ REnv Γ G H (wipeV e vs1) (wipe σ2 vs1) ∧
          Post Γ E0 G0 H0 (bnd (lcL t1 tt1 te (wipeV e vs1) k (items1.drop j)) (fun ys' => bnd (lc2L t tt it1 vs1 t1 tt1 te (wipeV env0 vs) (k + ys'.length) (items.drop (i + 1))) fun zs => ret (done ++ (ys' ++ zs))) st)
            (fun ys st' G' H' => Post Γ E G' H' (ret (.d (.lst ys)) st') fun z st' G' H' => ∀ v, RepW Γ G' H' z v → Q v H'),
        ⟨items1.length, rfl, Nat.zero_le _, G4, st4, acc, done, k, l4, .refl, hk, re4, re4'.wipe vs1, ?_⟩, ?_⟩
      · rw [List.drop_zero]
        have e2 : (bnd (lcL t1 tt1 te (wipeV e vs1) k items1) fun ys => bnd (bnd (lc2L t tt it1 vs1 t1 tt1 te (wipeV env0 vs) (k + ys.length) (items.drop (i + 1))) fun zs => ret (ys ++ zs)) fun ys => ret (done ++ ys)) =
            bnd (lcL t1 tt1 te (wipeV e vs1) k items1) (fun ys' => bnd (lc2L t tt it1 vs1 t1 tt1 te (wipeV env0 vs) (k + ys'.length) (items.drop (i + 1))) fun zs => ret (done ++ (ys' ++ zs))) := by
          congr 1
          funext ys
          rw [bnd_assoc]
          rfl
        rw [← e2]
        exact p
      rintro j m1 H ⟨rfl, hj, G, st, acc, done, k, l, kp, hk, re, re', p⟩
      by_cases hlt1 : j < items1.length
      · refine .inr ⟨wk1.go j G H kp hlt1, fun H' => ∃ G st acc done k, LcS G0 H0 D Γ G H' st acc done ∧ Keep G4 H4 G H' ∧ done.length ≤ k ∧ REnv Γ G H' (wipeV env0 vs) (wipe σ vs) ∧ REnv Γ G H' (wipeV e vs1) (wipe σ2 vs1) ∧
            Post Γ E0 G0 H0 (bnd (lcL t1 tt1 te (wipeV e vs1) k (items1.drop (j + 1))) (fun ys' => bnd (lc2L t tt it1 vs1 t1 tt1 te (wipeV env0 vs) (k + ys'.length) (items.drop (i + 1))) fun zs => ret (done ++ (ys' ++ zs))) st)
              (fun ys st' G' H' => Post Γ E G' H' (ret (.d (.lst ys)) st') fun z st' G' H' => ∀ v, RepW Γ G' H' z v → Q v H'),
          fun H' q => ⟨items1.length - (j + 1), by omega, rfl, hlt1, q⟩, fun x H1 y => ?_⟩
        obtain ⟨G1, d, s1, ok1, hd, rd⟩ := wk1.yld j G H st x H1 kp l.ok hlt1 y
        have ed : items1.drop j = d :: items1.drop (j + 1) := by
          obtain ⟨hl, e⟩ := List.getElem?_eq_some_iff.mp hd
          rw [List.drop_eq_getElem_cons hl, e]
        rw [ed] at p
        have l1 := l.go s1 ok1
        have re1 := re.step s1
        have re1' := re'.step s1
        unfold lcL at p
        rw [bnd_assoc] at p
        refine ⟨G1, _, st, .d d, ok1, re1', rd, (p.base l1.step).imp fun e3 st2 G2 H2 s2 ok2 p σ3 re3 on => ?_⟩
        show wipe σ3 vs1 = wipe σ2 vs1 ∧ _
        refine ⟨on.wipe.trans wipe_only.wipe, ?_⟩
        rw [bnd_assoc] at p
        have l2 := l1.go s2 ok2
        refine ⟨G2, e3, st2, ok2, re3, (p.base l2.step).imp fun b st3 G3 H3 s3 ok3 p => ?_⟩
        have l3 := l2.go s3 ok3
        have kp3 := ((kp.trans s1.keep).trans s2.keep).trans s3.keep
        cases b with
        | false => exact ⟨_, _, _, _, _, l3, kp3, hk, (re1.step s2).step s3, (re1'.step s2).step s3, p⟩
        | true =>
          simp only [if_true] at p ⊢
          by_cases hk2 : k < 1000000
          · rw [if_pos hk2, bnd_assoc] at p
            refine ⟨G3, e3, st3, ok3, re3.step s3, (p.base l3.step).imp fun w st4 G5 H5 s4 ok4 p v rv => ?_⟩
            rw [bnd_assoc] at p
            obtain ⟨y, ry, p⟩ := datD_inv rv p
            rw [bnd_assoc] at p
            have l4 := l3.go s4 ok4
            have hacc : acc.length = done.length := l4.rep.length.symm
            refine ⟨acc, l4.at_, by rw [hacc]; exact sz' (Nat.lt_of_le_of_lt hk hk2), ?_⟩
            have l5 := l4.add hD ry
            have kp5 : Keep G5 H5 G5 (upd H5 D (.lst (acc ++ [v]))) := ⟨fun _ h => h, fun a o h e => by rw [upd_ne (fun z => l4.nS (by rw [← z]; exact h))]; exact e⟩
            refine ⟨_, _, _, _, k + 1, l5, (kp3.trans s4.keep).trans kp5, by rw [List.length_append]; simp; exact hk, (((re1.step s2).step s3).step s4).other ok4 l4.nS l4.nP, (((re1'.step s2).step s3).step s4).other ok4 l4.nS l4.nP, ?_⟩
            have e2 : (bnd (lcL t1 tt1 te (wipeV e vs1) (k + 1) (items1.drop (j + 1))) fun ys => bnd (ret (y :: ys)) fun ys' => bnd (lc2L t tt it1 vs1 t1 tt1 te (wipeV env0 vs) (k + ys'.length) (items.drop (i + 1))) fun zs => ret (done ++ (ys' ++ zs))) =
                bnd (lcL t1 tt1 te (wipeV e vs1) (k + 1) (items1.drop (j + 1))) fun ys' => bnd (lc2L t tt it1 vs1 t1 tt1 te (wipeV env0 vs) (k + 1 + ys'.length) (items.drop (i + 1))) fun zs => ret (done ++ [y] ++ (ys' ++ zs)) := by
              congr 1
              funext ys
              rw [bnd_ret, List.length_cons, Nat.add_right_comm, Nat.add_assoc k]
              congr 1
              funext zs
              simp
            rw [e2] at p
            exact p
          · rw [if_neg hk2] at p
            exact p.elim
      · have e1 : j = items1.length := by omega
        subst e1
        rw [List.drop_length] at p
        refine .inl ⟨wk1.stop G H kp, fin l hk re ?_⟩
        have p : Post Γ E0 G0 H0 (bnd (lc2L t tt it1 vs1 t1 tt1 te (wipeV env0 vs) (k + 0) (items.drop (i + 1))) (fun zs => ret (done ++ ([] ++ zs))) st) _ := p
        exact p
  · have e : i = items.length := by omega
    subst e
    rw [List.drop_length] at p
    refine .inl ⟨wk.stop G H l.step.keep, ?_⟩
    have p : Post Γ E0 G0 H0 (ret (done ++ []) st) _ := p
    rw [List.append_nil] at p
    have okF := l.ok.freeze l.at_ l.nP
    have sF := freeze_step l.step hD
    exact (p _ _ sF okF).now okF _ (.lst (.inr rfl) (.inl l.at_) (RepL.mono (fun _ h => .inl h) (fun _ _ _ h => h) l.rep))
theorem e_lc2 {elt iter tg1 iter1 : Expr} {ifs ifs1 : List Expr} {scope : Scope} {own : List (Str × Nat)} {vs1 : List Nat} {pos : Pos} {it it1 : Env' → M (List Py)} {t t1 : Wv → Env' → M Env'} {tt tt1 : Env' → M Bool} {te : Env' → M Wv} (hN : X.N.Nodup) (ok : BlkOk X.N X.env.scope scope own) (hi : PI X tg iter (iM Γ E it))
    (hg : ∀ (s : Shared) (H : Hp) (C : Addr) (cl : List (Str × Addr)) (fp : List Addr), PG (X.blk s H scope (compEnvC scope cl C X.env) fp) tg (gM Γ E0 (own.map (·.2)) t)) (ht : ∀ (s : Shared) (H : Hp) (C : Addr) (cl : List (Str × Addr)) (fp : List Addr), PTs (X.blk s H scope (compEnvC scope cl C X.env) fp) ifs (tB' Γ E0 tt))
    (hi1 : ∀ (s : Shared) (H : Hp) (C : Addr) (cl : List (Str × Addr)) (fp : List Addr), PI (X.blk s H scope (compEnvC scope cl C X.env) fp) tg1 iter1 (iM Γ E0 it1))
    (hg1 : ∀ (s : Shared) (H : Hp) (C : Addr) (cl : List (Str × Addr)) (fp : List Addr), PG (X.blk s H scope (compEnvC scope cl C X.env) fp) tg1 (gM Γ E0 vs1 t1)) (ht1 : ∀ (s : Shared) (H : Hp) (C : Addr) (cl : List (Str × Addr)) (fp : List Addr), PTs (X.blk s H scope (compEnvC scope cl C X.env) fp) ifs1 (tB' Γ E0 tt1))
    (he : ∀ (s : Shared) (H : Hp) (C : Addr) (cl : List (Str × Addr)) (fp : List Addr), PE (X.blk s H scope (compEnvC scope cl C X.env) fp) elt (tM Γ E0 te)) (hv : ∀ i ∈ vs1, i ∈ own.map (·.2) := by decide) (hc : X.calm = true := by rfl) (hs : ∀ x, foldedSetIterable iter X.env x = pure x := by intro _; rfl) (hs1 : ∀ env x, foldedSetIterable iter1 env x = pure x := by intro _ _; rfl) :
    PE X (.ListComp elt [⟨tg, iter, ifs, 0⟩, ⟨tg1, iter1, ifs1, 0⟩] scope pos) (tM Γ E (mLc2 (own.map (·.2)) vs1 it t tt it1 t1 tt1 te)) := PEw (pe_lc2 hc hN hi ok hv hg ht hi1 hg1 ht1 he hs hs1) fun σ H Q q => tLc2_of q
theorem s_setLc2 {i : Nat} {y : Str} {py : Pos} {elt iter tg1 iter1 : Expr} {ifs ifs1 : List Expr} {scope : Scope} {own : List (Str × Nat)} {vs1 : List Nat} {pos spos : Pos} {it it1 : Env' → M (List Py)} {t t1 : Wv → Env' → M Env'} {tt tt1 : Env' → M Bool} {te : Env' → M Wv} (hN : X.N.Nodup) (ok : BlkOk X.N X.env.scope scope own) (hi : PI X tg iter (iM Γ E it))
    (hg : ∀ (s : Shared) (H : Hp) (C : Addr) (cl : List (Str × Addr)) (fp : List Addr), PG (X.blk s H scope (compEnvC scope cl C X.env) fp) tg (gM Γ E0 (own.map (·.2)) t)) (ht : ∀ (s : Shared) (H : Hp) (C : Addr) (cl : List (Str × Addr)) (fp : List Addr), PTs (X.blk s H scope (compEnvC scope cl C X.env) fp) ifs (tB' Γ E0 tt))
    (hi1 : ∀ (s : Shared) (H : Hp) (C : Addr) (cl : List (Str × Addr)) (fp : List Addr), PI (X.blk s H scope (compEnvC scope cl C X.env) fp) tg1 iter1 (iM Γ E0 it1))
    (hg1 : ∀ (s : Shared) (H : Hp) (C : Addr) (cl : List (Str × Addr)) (fp : List Addr), PG (X.blk s H scope (compEnvC scope cl C X.env) fp) tg1 (gM Γ E0 vs1 t1)) (ht1 : ∀ (s : Shared) (H : Hp) (C : Addr) (cl : List (Str × Addr)) (fp : List Addr), PTs (X.blk s H scope (compEnvC scope cl C X.env) fp) ifs1 (tB' Γ E0 tt1))
    (he : ∀ (s : Shared) (H : Hp) (C : Addr) (cl : List (Str × Addr)) (fp : List Addr), PE (X.blk s H scope (compEnvC scope cl C X.env) fp) elt (tM Γ E0 te))
    (hsw : swapsWith (.ListComp elt [⟨tg, iter, ifs, 0⟩, ⟨tg1, iter1, ifs1, 0⟩] scope pos) (some (.Name y py)) spos.line X.env = pure true) (hy : X.N[i]? = some y := by rfl) (hyl : X.env.scope.names.lookup y = some .local := by rfl)
    (hv : ∀ i ∈ vs1, i ∈ own.map (·.2) := by decide) (hc : X.calm = true := by rfl) (hs : ∀ x, foldedSetIterable iter X.env x = pure x := by intro _; rfl) (hs1 : ∀ env x, foldedSetIterable iter1 env x = pure x := by intro _ _; rfl) :
    PS X (.Assign [.Name y py] (.ListComp elt [⟨tg, iter, ifs, 0⟩, ⟨tg1, iter1, ifs1, 0⟩] scope pos) spos) (tS Γ E (mAsg (mLc2 (own.map (·.2)) vs1 it t tt it1 t1 tt1 te) (mSet i))) :=
  PSw (ps_setLc2 hc hN hy hyl hsw hi ok hv hg ht hi1 hg1 ht1 he hs hs1) fun D σ H q => by
    refine tLc2_of (At.bnd q fun w st G H1 ok ⟨env, re, p⟩ v rv => ?_)
    exact p.now ok _ (re.set rv)
end
end Bj

set_option Elab.async false
set_option linter.all false
set_option maxRecDepth 100000
set_option maxHeartbeats 1000000
/-! The mirror layer, part J: defs and their calls, own classes. -/
namespace Bj
open PySem PySem.Spec PyProof.Rows L2

/-- a def's promise, told by a mirror -/
def spM (Γ : Gam) (m : List Wv → M Wv) : Sp := fun vs H Q E => ∃ (G : Gh) (st : Store) (ws : List Wv), GOk Γ G H st ∧ RepWL Γ G H ws vs ∧
  Post Γ E G H (m ws st) fun w st' G' H' => ∀ v, RepW Γ G' H' w v → Q v H'
/-- a body's run: n parameters, N slots -/
@[simp] def fnM (n N : Nat) (b : Env' → M Fl) : List Wv → M Wv := fun ws => if ws.length = n then bnd (b (ws.map some ++ List.replicate (N - n) none)) fun f => match f with
  | .nx _ => ret (.d .non)
  | .rt w => ret w
  | _ => bad else bad
section
variable {Γ : Gam} {E : XK} {X : Cx}
theorem spM_len {n N : Nat} {b : Env' → M Fl} {vs : List V} {H : Hp} {Q : VK} {E : XK} (h : spM Γ (fnM n N b) vs H Q E) : vs.length = n := by
  obtain ⟨G, st, ws, ok, r, p⟩ := h
  unfold fnM at p
  by_cases hl : ws.length = n
  · rw [← Paired.length r, hl]
  · rw [if_neg hl] at p; exact p.elim
theorem renv_start {G : Gh} {H : Hp} {ws : List Wv} {vs : List V} {N : List Str} (r : RepWL Γ G H ws vs) : REnv Γ G H (ws.map some ++ List.replicate (N.length - ws.length) none) (L2.start N vs) := by
  have hl := Paired.length r
  refine ⟨by simp [L2.start, hl], fun i w e => ?_⟩
  by_cases h : i < ws.length
  · rw [List.getElem?_append_left (by simpa using h), List.getElem?_map] at e
    obtain ⟨w', h1, h2⟩ := Option.map_eq_some_iff.mp e
    cases h2
    obtain ⟨v, h3, h4⟩ := paired_get' r h1
    refine ⟨v, ?_, h4⟩
    unfold L2.start
    rw [List.getElem?_append_left (by simpa [hl] using h), List.getElem?_map, h3]
    rfl
  · rw [List.getElem?_append_right (by simp; omega)] at e
    have := List.mem_of_getElem? e
    have := List.eq_of_mem_replicate this
    cases this
theorem body_of {n : Nat} {N : List Str} {b : Env' → M Fl} {vs : List V} {H : Hp} {Q : VK} {E : XK} (h : spM Γ (fnM n N.length b) vs H Q E) : tS Γ E b { nx := fun _ H' => Q .non H', rt := Q } (L2.start N vs) H := by
  obtain ⟨G, st, ws, ok, r, p⟩ := h
  unfold fnM at p
  by_cases hl : ws.length = n
  · rw [if_pos hl] at p
    subst hl
    refine ⟨G, _, st, ok, renv_start r, p.bnd.imp fun f st1 G1 H1 s1 ok1 p => ?_⟩
    cases f with
    | nx e => exact fun σ' re => p.now ok1 _ .non
    | rt w => exact fun v rv => p.now ok1 v rv
    | bk e => exact p.elim
    | ct e => exact p.elim
  · rw [if_neg hl] at p; exact p.elim
section
variable {P : Program} {w : World} {K : PySem.W.Frag} {mg : Str → Option Value} {base : Heap}
abbrev FnM (Γ : Gam) (P : Program) (w : World) (K : PySem.W.Frag) (mg : Str → Option Value) (base : Heap) (k : Nat) (f : Addr) (fd : FuncData) (ps : List Str) (m : List Wv → M Wv) : Prop := FnOk P w K mg base (L2.CX P w) k f fd ps (spM Γ m)
theorem fn_ok {x qual : Str} {st : Stmt} {f : Addr} {fd : FuncData} {N ps : List Str} {k : Nat} {b : Env' → M Fl} (F : Fun K x qual st f fd) (S : FnScope N ps (defScope st))
    (hb : ∀ (cdv : Value) (A : Around) (outer : List Env) (s : Shared) (H : Hp) (E : XK), Room k (A.deeper (envOfC qual (defScope st) s.heap.objs.size f cdv)) →
      PSs (cxOf (L2.CX P w) P w K mg base N qual (defScope st) f cdv A outer s H E) (defBody st) (tS Γ E b)) : FnM Γ P w K mg base (k + 1) f fd ps (fnM ps.length N.length b) :=
  F.okX S (fun vs H Q E h => spM_len h) fun cdv A outer s H vs Q E hr h => ⟨_, hb cdv A outer s H E hr, body_of h⟩
theorem FnM.imp {k : Nat} {f : Addr} {fd : FuncData} {ps : List Str} {m m' : List Wv → M Wv} (F : FnM Γ P w K mg base k f fd ps m) (h : ∀ vs H Q E, spM Γ m' vs H Q E → spM Γ m vs H Q E) : FnM Γ P w K mg base k f fd ps m' := FnOk.imp F h
theorem FnM.eq {k : Nat} {f : Addr} {fd : FuncData} {ps : List Str} {m m' : List Wv → M Wv} (F : FnM Γ P w K mg base k f fd ps m) (h : m = m') : FnM Γ P w K mg base k f fd ps m' := h ▸ F
end

/-! ### defs that keep to themselves -/
theorem allD_any {G G' : Gh} {H : Hp} (hS : G'.S = G.S) : ∀ {ws : List Wv} {vs : List V} {ds : List Py}, allD ws = some ds → RepWL Γ G H ws vs → RepWL Γ G' H ws vs
  | [], _, _, _, .nil => .nil
  | .d x :: r, _, ds, e, .cons h t => by
    unfold allD at e
    obtain ⟨ds', e1, e2⟩ := Option.map_eq_some_iff.mp e
    refine .cons ?_ (allD_any hS e1 t)
    show Rep Γ G'.S H x _
    rw [hS]; exact h
  | .r _ :: _, _, _, e, _ => by cases e
theorem GOk.alone {G : Gh} {H : Hp} {st : Store} (ok : GOk Γ G H st) : GOk Γ ⟨G.S, []⟩ H [] := ⟨rfl, .nil, fun a h => ok.tr a (h.elim .inl fun h => nomatch h), fun n a c e _ => by simp at e⟩
/-- back from a run on a store of its own (cells at q, new): T is frozen now -/
theorem GOk.back {G G' : Gh} {H H2 H' : Hp} {st : Store} {q : List Addr} {T : Addr → Prop} (ok : GOk Γ G H st) (hq : ∀ a ∈ q, H a = none) (h2 : ∀ a o, H a = some o → H2 a = some o) (s : Step ⟨G.S, q⟩ H2 G' H')
    (hT : ∀ a, T a → G'.S a ∨ a ∈ q) (hT2 : ∀ a, G'.S a → T a) (hT3 : ∀ a, T a → H' a ≠ none) : Step G H ⟨T, G.π⟩ H' ∧ GOk Γ ⟨T, G.π⟩ H' st := by
  have frm : ∀ a o, H a = some o → H' a = some o := fun a o e => s.frm a o (h2 a o e) fun m => by rw [hq a m] at e; cases e
  have new : ∀ a, T a → G.S a ∨ H a = none := fun a h => by
    rcases hT a h with h | h
    · rcases s.new a (.inl h) with h | h | h
      · exact .inl h
      · exact .inr (hq a h)
      · cases e : H a with
        | none => exact .inr rfl
        | some o => rw [h2 a o e] at h; cases h
    · exact .inr (hq a h)
  have st1 : Step G H ⟨T, G.π⟩ H' := ⟨⟨[], by simp⟩, fun a h => hT2 a (s.sub a h), fun a o e _ => frm a o e, fun a h => by
    rcases h with h | h
    · exact (new a h).elim .inl fun h => .inr (.inr h)
    · exact .inr (.inl h)⟩
  refine ⟨st1, ok.len, ok.nd, fun a h => ?_, fun n a c e1 e2 => ?_⟩
  · rcases h with h | h
    · exact hT3 a h
    · cases e : H a with
      | none => exact absurd e (ok.tr a (.inr h))
      | some o => rw [frm a o e]; simp
  · have q := ok.cells n a c e1 e2
    cases c with
    | dead => trivial
    | lst ws =>
      obtain ⟨h1, xs, h2, h3⟩ := q
      exact ⟨fun z => (new a z).elim h1 fun h => (by rw [h] at h2; cases h2), xs, frm _ _ h2, st1.vals h3⟩
    | obj c fs =>
      obtain ⟨h1, dx, gs, h2, h3⟩ := q
      exact ⟨fun z => (new a z).elim h1 fun h => (by rw [h] at h2; cases h2), dx, gs, frm _ _ h2, st1.flds h3⟩
/-- run on a store of its own: arguments and answer are data -/
def wrapP (m : List Wv → M Wv) : List Wv → M Wv := fun ws st => match allD ws with
  | none => .bad
  | some _ => match m ws [] with
    | .ok (.d x) _ => .ok (.d x) st
    | .ex x _ => .ex x st
    | _ => .bad
theorem spM_wrap {m : List Wv → M Wv} {vs : List V} {H : Hp} {Q : VK} {E : XK} (h : spM Γ (wrapP m) vs H Q E) : spM Γ m vs H Q E := by
  obtain ⟨G, st, ws, ok, r, p⟩ := h
  unfold wrapP at p
  cases e : allD ws with
  | none => simp only [e] at p; exact p.elim
  | some ds =>
    simp only [e] at p
    refine ⟨⟨G.S, []⟩, [], ws, ok.alone, allD_any (G := G) (G' := ⟨G.S, []⟩) rfl e r, ?_⟩
    have bk : ∀ {G' : Gh} {H' : Hp} {st' : Store}, Step ⟨G.S, []⟩ H G' H' → GOk Γ G' H' st' → Step G H ⟨G'.S, G.π⟩ H' ∧ GOk Γ ⟨G'.S, G.π⟩ H' st := fun s ok' =>
      ok.back (q := []) (fun a h => nomatch h) (fun _ _ h => h) s (fun a h => .inl h) (fun a h => h) (fun a h => ok'.tr a (.inl h))
    cases e2 : m ws [] with
    | ok w st' =>
      simp only [e2] at p
      intro G' H' s ok' v rv
      obtain ⟨s2, ok2⟩ := bk s ok'
      cases w with
      | d x => exact p _ _ s2 ok2 v rv
      | r n => exact p.elim
    | ex x st' =>
      simp only [e2] at p
      intro G' H' c dx s ok' xr
      obtain ⟨s2, ok2⟩ := bk s ok'
      exact p _ _ c dx s2 ok2 xr
    | bad => simp only [e2] at p; exact p.elim
theorem FnM.wrap {P : Program} {w : World} {K : PySem.W.Frag} {mg : Str → Option Value} {base : Heap} {k : Nat} {f : Addr} {fd : FuncData} {ps : List Str} {m : List Wv → M Wv} (F : FnM Γ P w K mg base k f fd ps m) : FnM Γ P w K mg base k f fd ps (wrapP m) := F.imp fun _ _ _ _ h => spM_wrap h
/-- cells made within are dropped -/
def lowW (k : Nat) : Wv → Bool
  | .d _ => true
  | .r n => decide (n < k)
def lowC (k : Nat) : Cell → Bool
  | .lst ws => ws.all (lowW k)
  | .obj _ fs => fs.all fun p => lowW k p.2
  | .dead => true
def wrapT (m : List Wv → M Wv) : List Wv → M Wv := fun ws st => match m ws st with
  | .ok w st' => if lowW st.length w && (st'.take st.length).all (lowC st.length) then .ok w (st'.take st.length) else .bad
  | .ex x st' => if (st'.take st.length).all (lowC st.length) then .ex x (st'.take st.length) else .bad
  | .bad => .bad
theorem RepW.low {G G' : Gh} {H : Hp} {w : Wv} {v : V} {k : Nat} (hl : lowW k w = true) (r : RepW Γ G' H w v) (hS : G'.S = G.S) (hp : ∀ n, n < k → G'.π[n]? = G.π[n]?) : RepW Γ G H w v := by
  cases w with
  | d x => show Rep Γ G.S H x v; rw [← hS]; exact r
  | r n =>
    obtain ⟨a, e, q⟩ := r
    exact ⟨a, by rw [← hp n (of_decide_eq_true hl)]; exact e, q⟩
theorem RepWL.low {G G' : Gh} {H : Hp} {k : Nat} (hS : G'.S = G.S) (hp : ∀ n, n < k → G'.π[n]? = G.π[n]?) : ∀ {ws : List Wv} {vs : List V}, ws.all (lowW k) = true → RepWL Γ G' H ws vs → RepWL Γ G H ws vs
  | _, _, _, .nil => .nil
  | _, _, h, .cons r t => by
    rw [List.all_cons, Bool.and_eq_true] at h
    exact .cons (r.low h.1 hS hp) (RepWL.low hS hp h.2 t)
theorem RepWF.low {G G' : Gh} {H : Hp} {k : Nat} (hS : G'.S = G.S) (hp : ∀ n, n < k → G'.π[n]? = G.π[n]?) : ∀ {ws : List (Str × Wv)} {vs : List (Str × V)}, (ws.all fun p => lowW k p.2) = true → RepWF Γ G' H ws vs → RepWF Γ G H ws vs
  | _, _, _, .nil => .nil
  | _, _, h, .cons r t => by
    rw [List.all_cons, Bool.and_eq_true] at h
    exact .cons ⟨r.1, r.2.low h.1 hS hp⟩ (RepWF.low hS hp h.2 t)
theorem GOk.cut {G G' : Gh} {H H' : Hp} {st st' : Store} (ok : GOk Γ G H st) (s : Step G H G' H') (ok' : GOk Γ G' H' st') (hl : (st'.take st.length).all (lowC st.length) = true) :
    Step G H ⟨G'.S, G.π⟩ H' ∧ GOk Γ ⟨G'.S, G.π⟩ H' (st'.take st.length) ∧ ∀ n, n < st.length → G'.π[n]? = G.π[n]? := by
  obtain ⟨t, et⟩ := s.pre
  have hp : ∀ n, n < st.length → G'.π[n]? = G.π[n]? := fun n h => by rw [et, List.getElem?_append_left (by rw [ok.len]; exact h)]
  refine ⟨⟨⟨[], by simp⟩, s.sub, s.frm, fun a h => s.new a (h.elim .inl fun h => .inr (s.mem h))⟩, ⟨?_, ok.nd, fun a h => ok'.tr a (h.elim .inl fun h => .inr (s.mem h)), fun n a c e1 e2 => ?_⟩, hp⟩
  · have h1 := ok'.len
    have h2 := ok.len
    rw [et, List.length_append] at h1
    show G.π.length = _
    rw [List.length_take]
    omega
  · have hn : n < st.length := by rw [← ok.len]; exact (List.getElem?_eq_some_iff.mp e1).1
    have e1' : G'.π[n]? = some a := by rw [hp n hn]; exact e1
    have e2' : st'[n]? = some c := by rw [List.getElem?_take, if_pos hn] at e2; exact e2
    have q := ok'.cells n a c e1' e2'
    have hc : lowC st.length c = true := List.all_eq_true.mp hl c (List.mem_of_getElem? e2)
    cases c with
    | dead => trivial
    | lst ws =>
      obtain ⟨h1, xs, h2, h3⟩ := q
      exact ⟨h1, xs, h2, RepWL.low (G := ⟨G'.S, G.π⟩) (G' := G') rfl hp hc h3⟩
    | obj c fs =>
      obtain ⟨h1, dx, gs, h2, h3⟩ := q
      exact ⟨h1, dx, gs, h2, RepWF.low (G := ⟨G'.S, G.π⟩) (G' := G') rfl hp hc h3⟩
theorem spM_cut {m : List Wv → M Wv} {vs : List V} {H : Hp} {Q : VK} {E : XK} (h : spM Γ (wrapT m) vs H Q E) : spM Γ m vs H Q E := by
  obtain ⟨G, st, ws, ok, r, p⟩ := h
  refine ⟨G, st, ws, ok, r, ?_⟩
  unfold wrapT at p
  cases e2 : m ws st with
  | ok w st' =>
    simp only [e2] at p
    by_cases hc : (lowW st.length w && (st'.take st.length).all (lowC st.length)) = true
    · rw [if_pos hc] at p
      rw [Bool.and_eq_true] at hc
      intro G' H' s ok' v rv
      obtain ⟨s2, ok2, hp⟩ := ok.cut s ok' hc.2
      exact p _ _ s2 ok2 v (rv.low hc.1 rfl hp)
    · rw [if_neg hc] at p; exact p.elim
  | ex x st' =>
    simp only [e2] at p
    by_cases hc : ((st'.take st.length).all (lowC st.length)) = true
    · rw [if_pos hc] at p
      intro G' H' c dx s ok' xr
      obtain ⟨s2, ok2, hp⟩ := ok.cut s ok' hc
      exact p _ _ c dx s2 ok2 xr
    · rw [if_neg hc] at p; exact p.elim
  | bad => simp only [e2] at p; exact p
theorem FnM.cut {P : Program} {w : World} {K : PySem.W.Frag} {mg : Str → Option Value} {base : Heap} {k : Nat} {f : Addr} {fd : FuncData} {ps : List Str} {m : List Wv → M Wv} (F : FnM Γ P w K mg base k f fd ps m) : FnM Γ P w K mg base k f fd ps (wrapT m) := F.imp fun _ _ _ _ h => spM_cut h

/-! ### calls of defs -/
section
variable {k : Nat} {f C : Addr} {fd : FuncData} {ps : List Str} {m : List Wv → M Wv}
theorem e_call {x : Str} {e : Expr} {es : List Expr} {a : Env' → M (List Wv)} {p pos : Pos} (F : FnM Γ X.prog X.w X.K X.mg X.base k f fd ps m) (hr : Room k X.A) (hm : X.mg x = some (.ref f)) (hk : PySem.W.keepIn X.K (.ref f) = true) (hb : Binds X.K fd ps []) (hx : Passes (L2.CX X.prog X.w) X E)
    (ha : PA X (e :: es) (aM Γ E a)) (hg : Gl X x := by rfl) (hdb : (x == ("__debug__" : Str)) = false := by decide) (he : starEach (e :: es) X.env = (false, eval e X.env) :: starEach es X.env := by rfl) (hpl : (backTo pos (starEach es X.env)).any (·.1) = false := by rfl) :
    PE X (.Call (.Name x p) (e :: es) [] pos) (tM Γ E (mL m a)) := PEw (pe_call F hr hg hm hk hb .nil hx ha hdb he hpl) fun σ H Q h => by
  refine At.bnd (f := fun x _ => m x) h fun ws st G H1 ok ⟨env, re, p⟩ vs rvs => ?_
  exact ⟨G, st, ws, ok, by rw [List.append_nil]; exact rvs, p⟩
@[simp] def mL0 (m : List Wv → M Wv) : Env' → M Wv := fun _ => m []
theorem e_call0 {x : Str} {p pos : Pos} (F : FnM Γ X.prog X.w X.K X.mg X.base k f fd ps m) (hr : Room k X.A) (hm : X.mg x = some (.ref f)) (hk : PySem.W.keepIn X.K (.ref f) = true) (hb : Binds X.K fd ps []) (hx : Passes (L2.CX X.prog X.w) X E)
    (hg : Gl X x := by rfl) (hdb : (x == ("__debug__" : Str)) = false := by decide) : PE X (.Call (.Name x p) [] [] pos) (tM Γ E (mL0 m)) := PEw (pe_call0 F hr hg hm hk hb .nil hx hdb) fun σ H Q h => by
  obtain ⟨G, env, st, ok, re, p⟩ := h
  exact ⟨G, st, [], ok, .nil, p⟩
/-- with defaults that are plain constants -/
@[simp] def mLD (dws : List Py) (m : List Wv → M Wv) (a : Env' → M (List Wv)) : Env' → M Wv := fun env => bnd (a env) fun ws => m (ws ++ dws.map Wv.d)
theorem RepWL.app {G : Gh} {H : Hp} : ∀ {ws us : List Wv} {xs ys : List V}, RepWL Γ G H ws xs → RepWL Γ G H us ys → RepWL Γ G H (ws ++ us) (xs ++ ys)
  | _, _, _, _, .nil, t => t
  | _, _, _, _, .cons r s, t => .cons r (RepWL.app s t)
theorem e_callD {x : Str} {e : Expr} {es : List Expr} {a : Env' → M (List Wv)} {p pos : Pos} {dws : List Py} {dvs : List V} {ds : List Value} (F : FnM Γ X.prog X.w X.K X.mg X.base k f fd ps m) (hr : Room k X.A) (hm : X.mg x = some (.ref f)) (hk : PySem.W.keepIn X.K (.ref f) = true) (hb : Binds X.K fd ps ds)
    (hd : Vals dvs ds) (hw : ∀ (S : Addr → Prop) (H : Hp), RepL Γ S H dws dvs) (hx : Passes (L2.CX X.prog X.w) X E)
    (ha : PA X (e :: es) (aM Γ E a)) (hg : Gl X x := by rfl) (hdb : (x == ("__debug__" : Str)) = false := by decide) (he : starEach (e :: es) X.env = (false, eval e X.env) :: starEach es X.env := by rfl) (hpl : (backTo pos (starEach es X.env)).any (·.1) = false := by rfl) :
    PE X (.Call (.Name x p) (e :: es) [] pos) (tM Γ E (mLD dws m a)) := PEw (pe_call F hr hg hm hk hb hd hx ha hdb he hpl) fun σ H Q h => by
  refine At.bnd (f := fun ws _ => m (ws ++ dws.map Wv.d)) h fun ws st G H1 ok ⟨env, re, p⟩ vs rvs => ?_
  exact ⟨G, st, _, ok, RepWL.app rvs (hw G.S H1).toW, p⟩
end
end
end Bj

set_option Elab.async false
set_option linter.all false
set_option maxRecDepth 100000
set_option maxHeartbeats 1000000
/-! The mirror layer, part K: own classes; values and slots frozen. -/
namespace Bj
open PySem PySem.Spec PyProof.Rows L2
section
variable {Γ : Gam} {E : XK} {X : Cx}

/-! ### objects -/
/-- an object's class and fields as they stand -/
def objW (w : Wv) : M (Nat × List (Str × Wv)) := match w with
  | .d (.obj c fs) => ret (c, fs.map fun p => (p.1, .d p.2))
  | .r n => fun st => match st[n]? with
    | some (.obj c fs) => .ok (c, fs) st
    | _ => .bad
  | _ => bad
theorem RepF.toW {G : Gh} {H : Hp} : ∀ {fs : List (Str × Py)} {gs : List (Str × V)}, RepF Γ G.S H fs gs → RepWF Γ G H (fs.map fun p => (p.1, .d p.2)) gs
  | _, _, .nil => .nil
  | _, _, .cons r t => .cons ⟨rfl, r⟩ (RepF.toW t)
theorem objW_inv {α : Type} {G : Gh} {H : Hp} {st : Store} {w : Wv} {v : V} {f : Nat × List (Str × Wv) → M α} {K : α → Store → Gh → Hp → Prop} (ok : GOk Γ G H st) (r : RepW Γ G H w v) (p : Post Γ E G H (bnd (objW w) f st) K) :
    ∃ c fs a dx gs, v = .ref a ∧ H a = some (.ins (Γ.cls c) dx gs) ∧ RepWF Γ G H fs gs ∧ Post Γ E G H (f (c, fs) st) K := by
  cases w with
  | d x =>
    cases x with
    | obj c fs => cases r with | obj s h t => exact ⟨c, _, _, _, _, rfl, h, t.toW, p⟩
    | _ => exact p.elim
  | r n =>
    obtain ⟨a, e, rfl⟩ := r
    have p : Post Γ E G H (bnd (fun st => match st[n]? with
      | some (.obj c fs) => .ok (c, fs) st
      | _ => .bad) f st) K := p
    unfold bnd at p
    cases h : st[n]? with
    | none => simp only [h] at p; exact p.elim
    | some c =>
      cases c with
      | obj c fs =>
        simp only [h] at p
        obtain ⟨_, dx, gs, h2, h3⟩ := ok.cells n a _ e h
        exact ⟨c, fs, a, dx, gs, rfl, h2, h3, p⟩
      | _ => simp only [h] at p; exact p.elim
theorem RepWF.look {G : Gh} {H : Hp} {f : Str} : ∀ {ds : List (Str × Wv)} {vs : List (Str × V)} {d : Wv}, RepWF Γ G H ds vs → ds.lookup f = some d → ∃ v, vs.lookup f = some v ∧ RepW Γ G H d v
  | _, _, _, .nil, e => by cases e
  | (g, x) :: _, (g', y) :: _, d, .cons r t, e => by
    obtain ⟨r1, r2⟩ := r
    dsimp only at r1 r2
    subst r1
    rw [List.lookup_cons] at e ⊢
    cases hb : f == g with
    | true => simp only [hb] at e ⊢; cases e; exact ⟨_, rfl, r2⟩
    | false => simp only [hb] at e ⊢; exact RepWF.look t e
theorem RepWF.none {G : Gh} {H : Hp} {f : Str} : ∀ {ds : List (Str × Wv)} {vs : List (Str × V)}, RepWF Γ G H ds vs → ds.lookup f = none → vs.lookup f = none
  | _, _, .nil, _ => rfl
  | (g, x) :: _, (g', y) :: _, .cons r t, e => by
    obtain ⟨r1, r2⟩ := r
    dsimp only at r1 r2
    subst r1
    rw [List.lookup_cons] at e ⊢
    cases hb : f == g with
    | true => simp only [hb] at e; cases e
    | false => simp only [hb] at e ⊢; exact RepWF.none t e
/-- e.f -/
@[simp] def getF (cs : List Nat) (f : Str) (w : Wv) : M Wv := bnd (objW w) fun p => if p.1 ∈ cs then opt (p.2.lookup f) else bad
/-- the classes cs have the name f on no class -/
def FldF (Γ : Gam) (K : PySem.W.Frag) (cs : List Nat) (f : Str) : Prop := ∀ c ∈ cs, Cls K (Γ.cls c) ∧ NoAttr K (Γ.cls c) f
theorem e_fld {e : Expr} {f : Str} {m : Env' → M Wv} {pos : Pos} (cs : List Nat) (F : FldF Γ X.K cs f) (he : PE X e (tM Γ E m)) (hb : attributeBase e f X.env (eval e X.env) = eval e X.env := by rfl) : PE X (.Attribute e f pos) (tM Γ E (m1 (getF cs f) m)) :=
  PEw (pe_fld he hb) fun σ H Q h => by
    refine At.bnd (f := fun x _ => getF cs f x) h fun w st G H1 ok ⟨env, re, p⟩ v rv => ?_
    obtain ⟨c, fs, a, dx, gs, rfl, ha, r, p⟩ := objW_inv ok rv p
    obtain ⟨hc, p⟩ := Post.iff (c := c ∈ cs) (m := opt (fs.lookup f)) p
    cases hl : fs.lookup f with
    | none => rw [hl] at p; exact p.elim
    | some x =>
      rw [hl] at p
      obtain ⟨y, h1, h2⟩ := r.look hl
      exact ⟨a, _, dx, gs, y, rfl, ha, (F c hc).1, (F c hc).2, h1, p.fin ok h2⟩
/-- o.f = v, o an object cell -/
def putW (f : Str) (v : Wv) : List (Str × Wv) → List (Str × Wv)
  | [] => [(f, v)]
  | (g, x) :: r => if g = f then (g, v) :: r else (g, x) :: putW f v r
theorem RepWF.put {G : Gh} {H : Hp} {f : Str} {v : Wv} {y : V} (rv : RepW Γ G H v y) : ∀ {ds : List (Str × Wv)} {vs : List (Str × V)}, RepWF Γ G H ds vs → RepWF Γ G H (putW f v ds) (putF f y vs)
  | _, _, .nil => .cons ⟨rfl, rv⟩ .nil
  | (g, x) :: _, (g', z) :: _, .cons r t => by
    obtain ⟨r1, r2⟩ := r
    dsimp only at r1 r2
    subst r1
    unfold putW putF
    by_cases h : g = f
    · rw [if_pos h, if_pos h]; exact .cons ⟨rfl, rv⟩ t
    · rw [if_neg h, if_neg h]; exact .cons ⟨rfl, r2⟩ (RepWF.put rv t)
def setF (cs : List Nat) (f : Str) (o v : Wv) : M Unit := match o with
  | .r n => fun st => match st[n]? with
    | some (.obj c fs) => if c ∈ cs ∧ fs.length < 1000 then .ok () (st.set n (.obj c (putW f v fs))) else .bad
    | _ => .bad
  | _ => bad
def mFldS (cs : List Nat) (f : Str) (mo mv : Env' → M Wv) : Env' → M Fl := fun env => bnd (mv env) fun v => bnd (mo env) fun o => bnd (setF cs f o v) fun _ => ret (.nx env)
theorem s_fld {o value : Expr} {f : Str} {mo mv : Env' → M Wv} {pos pos' : Pos} (cs : List Nat) (F : FldF Γ X.K cs f) (ho : PE X o (tM Γ E mo)) (hv : PE X value (tM Γ E mv)) (hs : swapsWith value (some (.Attribute o f pos')) pos.line X.env = pure false := by rfl) :
    PS X (.Assign [.Attribute o f pos'] value pos) (tS Γ E (mFldS cs f mo mv)) := PSw (ps_fld ho hv hs) fun D σ H q => by
  refine At.bnd q fun v st G H1 ok ⟨env, re, p⟩ y ry => ?_
  refine ⟨G, env, st, ok, re, p.bnd.imp fun o st2 G2 H2 s2 ok2 p x rx => ?_⟩
  cases o with
  | d x => exact p.elim
  | r n =>
    obtain ⟨a, e, rfl⟩ := rx
    have p : Post Γ E G2 H2 (bnd (fun st => match st[n]? with
      | some (.obj c fs) => if c ∈ cs ∧ fs.length < 1000 then .ok () (st.set n (.obj c (putW f v fs))) else .bad
      | _ => .bad) (fun _ => ret (.nx env)) st2) (FlK Γ D) := p
    unfold bnd at p
    cases h : st2[n]? with
    | none => simp only [h] at p; exact p.elim
    | some c =>
      cases c with
      | obj c fs =>
        simp only [h] at p
        by_cases hc : c ∈ cs ∧ fs.length < 1000
        · rw [if_pos hc] at p
          obtain ⟨nS, dx, gs, h2, h3⟩ := ok2.cells n a _ e h
          have rv2 := s2.val ry
          refine ⟨a, _, dx, gs, rfl, h2, (F c hc.1).1, (F c hc.1).2, by rw [← Paired.length h3]; exact hc.2, ?_⟩
          obtain ⟨s3, ok3⟩ := ok2.put (o := .ins (Γ.cls c) dx (putF f y gs)) (c := .obj c (putW f v fs)) e nS fun s => ⟨nS, dx, _, upd_same, s.flds (RepWF.put rv2 h3)⟩
          exact p _ _ s3 ok3 σ ((re.step s2).step s3)
        · rw [if_neg hc] at p; exact p.elim
      | _ => simp only [h] at p; exact p.elim

/-! ### methods -/
@[simp] def chkO (c : Nat) (m : Str) (w : Wv) : M Unit := bnd (objW w) fun p => if p.1 = c ∧ p.2.lookup m = none then ret () else bad
@[simp] def mMeth (c : Nat) (mn : Str) (m : List Wv → M Wv) (o : Env' → M Wv) (a : Env' → M (List Wv)) : Env' → M Wv := fun env => bnd (o env) fun w => bnd (chkO c mn w) fun _ => bnd (a env) fun ws => m (w :: ws)
theorem chkO_inv {α : Type} {c : Nat} {mn : Str} {G : Gh} {H : Hp} {st : Store} {w : Wv} {v : V} {f : Unit → M α} {K : α → Store → Gh → Hp → Prop} (ok : GOk Γ G H st) (r : RepW Γ G H w v) (p : Post Γ E G H (bnd (chkO c mn w) f st) K) :
    ∃ a dx gs, v = .ref a ∧ H a = some (.ins (Γ.cls c) dx gs) ∧ gs.lookup mn = none ∧ Post Γ E G H (f () st) K := by
  unfold chkO at p
  rw [bnd_assoc] at p
  obtain ⟨c', fs, a, dx, gs, rfl, ha, r, p⟩ := objW_inv ok r p
  by_cases hc : c' = c ∧ fs.lookup mn = none
  · obtain ⟨rfl, h2⟩ := id hc
    dsimp only at p
    rw [if_pos hc] at p
    exact ⟨a, dx, gs, rfl, ha, r.none h2, p⟩
  · dsimp only at p
    rw [if_neg hc] at p
    exact p.elim
section
variable {k : Nat} {f : Addr} {fd : FuncData} {ps : List Str} {m : List Wv → M Wv} {c : Nat} {mn : Str} {o e : Expr} {es : List Expr} {mo : Env' → M Wv} {a : Env' → M (List Wv)} {apos pos : Pos}
theorem e_meth {pl : Sem Bool} (C : Cls X.K (Γ.cls c)) (hm : Meth X.K (Γ.cls c) mn f) (F : FnM Γ X.prog X.w X.K X.mg X.base k f fd ps m) (hr : Room k X.A) (hb : Binds X.K fd ps []) (hx : Passes (L2.CX X.prog X.w) X E) (ho : PE X o (tM Γ E mo)) (ha : PA X (e :: es) (aM Γ E a))
    (hst : starEach (e :: es) X.env = (false, eval e X.env) :: starEach es X.env := by rfl) (hpl : (backTo pos (starEach es X.env)).any (·.1) = false := by rfl)
    (ht : eval (.Call (.Attribute o mn apos) (e :: es) [] pos) X.env = (do
      let ov ← eval o X.env
      standAt apos.atName
      let (f, first) ← holding [ov] (getMethod ov mn pl)
      callWith pos f first (backTo pos (starEach (e :: es) X.env)) (backToKw pos (keywordEach [] X.env))) := by rfl) :
    PE X (.Call (.Attribute o mn apos) (e :: es) [] pos) (tM Γ E (mMeth c mn m mo a)) := PEw (pe_meth ho C hm F hr hb .nil hx ha hst hpl ht) fun σ H Q h => by
  refine At.bnd h fun w st G H1 ok ⟨env, re, p⟩ v rv => ?_
  obtain ⟨a, dx, gs, rfl, h1, h2, p⟩ := chkO_inv ok rv p
  refine ⟨a, dx, gs, rfl, h1, h2, G, env, st, ok, re, p.bnd.imp fun ws st2 G2 H2 s2 ok2 p vs rvs => ?_⟩
  exact ⟨G2, st2, w :: ws, ok2, by rw [List.append_nil]; exact .cons (s2.val rv) rvs, p⟩
@[simp] def mMeth0 (c : Nat) (mn : Str) (m : List Wv → M Wv) (o : Env' → M Wv) : Env' → M Wv := fun env => bnd (o env) fun w => bnd (chkO c mn w) fun _ => m [w]
theorem e_meth0 {pl : Sem Bool} (C : Cls X.K (Γ.cls c)) (hm : Meth X.K (Γ.cls c) mn f) (F : FnM Γ X.prog X.w X.K X.mg X.base k f fd ps m) (hr : Room k X.A) (hb : Binds X.K fd ps []) (hx : Passes (L2.CX X.prog X.w) X E) (ho : PE X o (tM Γ E mo))
    (ht : eval (.Call (.Attribute o mn apos) [] [] pos) X.env = (do
      let ov ← eval o X.env
      standAt apos.atName
      let (f, first) ← holding [ov] (getMethod ov mn pl)
      callWith pos f first (backTo pos (starEach [] X.env)) (backToKw pos (keywordEach [] X.env))) := by rfl) :
    PE X (.Call (.Attribute o mn apos) [] [] pos) (tM Γ E (mMeth0 c mn m mo)) := PEw (pe_meth0 ho C hm F hr hb .nil hx ht) fun σ H Q h => by
  refine At.bnd (f := fun w _ => bnd (chkO c mn w) fun _ => m [w]) h fun w st G H1 ok ⟨env, re, p⟩ v rv => ?_
  obtain ⟨a, dx, gs, rfl, h1, h2, p⟩ := chkO_inv ok rv p
  exact ⟨a, dx, gs, rfl, h1, h2, G, st, [w], ok, .cons rv .nil, p⟩
/-- a property -/
@[simp] def chkC (c : Nat) (w : Wv) : M Unit := bnd (objW w) fun p => if p.1 = c then ret () else bad
theorem chkC_inv {α : Type} {c : Nat} {G : Gh} {H : Hp} {st : Store} {w : Wv} {v : V} {f : Unit → M α} {K : α → Store → Gh → Hp → Prop} (ok : GOk Γ G H st) (r : RepW Γ G H w v) (p : Post Γ E G H (bnd (chkC c w) f st) K) :
    ∃ a dx gs, v = .ref a ∧ H a = some (.ins (Γ.cls c) dx gs) ∧ Post Γ E G H (f () st) K := by
  unfold chkC at p
  rw [bnd_assoc] at p
  obtain ⟨c', fs, a, dx, gs, rfl, ha, r, p⟩ := objW_inv ok r p
  by_cases hc : c' = c
  · subst hc
    dsimp only at p
    rw [if_pos rfl] at p
    exact ⟨a, dx, gs, rfl, ha, p⟩
  · dsimp only at p
    rw [if_neg hc] at p
    exact p.elim
theorem noEx_post {α : Type} {G : Gh} {H : Hp} {st : Store} {m : M α} {K : α → Store → Gh → Hp → Prop} (p : Post Γ E G H (noEx m st) K) : Post Γ E0 G H (m st) K := by
  unfold noEx at p
  cases e : m st with
  | ok a st' => simp only [e] at p; exact p
  | ex x st' => simp only [e] at p; exact p.elim
  | bad => simp only [e] at p; exact p.elim
@[simp] def mProp (c : Nat) (m : List Wv → M Wv) (o : Env' → M Wv) : Env' → M Wv := fun env => bnd (o env) fun w => bnd (chkC c w) fun _ => noEx (m [w])
theorem e_prop {p g : Addr} (C : Cls X.K (Γ.cls c)) (hp : PropOf X.K (Γ.cls c) mn p g) (F : FnM Γ X.prog X.w X.K X.mg X.base k g fd ps m) (hr : Room (k + 1) X.A) (hb : Binds X.K fd ps []) (ho : PE X o (tM Γ E mo))
    (hab : attributeBase o mn X.env (eval o X.env) = eval o X.env := by rfl) : PE X (.Attribute o mn pos) (tM Γ E (mProp c m mo)) := PEw (pe_prop ho C hp F hr hb .nil passL hab) fun σ H Q h => by
  refine At.bnd (f := fun w _ => bnd (chkC c w) fun _ => noEx (m [w])) h fun w st G H1 ok ⟨env, re, p⟩ v rv => ?_
  obtain ⟨a, dx, gs, rfl, h1, p⟩ := chkC_inv ok rv p
  exact ⟨a, dx, gs, rfl, h1, G, st, [w], ok, .cons rv .nil, noEx_post p⟩

/-! ### new instances -/
/-- a new object cell, then __init__ -/
@[simp] def isNon' : Wv → M Unit
  | .d .non => ret ()
  | _ => bad
def newC (c : Nat) (m : List Wv → M Wv) (ws : List Wv) : M Wv := fun st => bnd (m (.r st.length :: ws)) (fun z => bnd (isNon' z) fun _ => ret (.r st.length)) (st ++ [.obj c []])
def mMake (c : Nat) (m : List Wv → M Wv) (a : Env' → M (List Wv)) : Env' → M Wv := fun env => bnd (a env) (newC c m)
theorem isNon_inv {α : Type} {G : Gh} {H : Hp} {st : Store} {w : Wv} {v : V} {f : Unit → M α} {K : α → Store → Gh → Hp → Prop} (r : RepW Γ G H w v) (p : Post Γ E G H (bnd (isNon' w) f st) K) : v = .non ∧ Post Γ E G H (f () st) K := by
  cases w with
  | d x =>
    cases x with
    | non => cases r; exact ⟨rfl, p⟩
    | _ => exact p.elim
  | r n => exact p.elim
theorem new_of {G : Gh} {H : Hp} {st : Store} {ws : List Wv} {vs : List V} {Q : VK} (ok : GOk Γ G H st) (r : RepWL Γ G H ws vs) (p : Post Γ E G H (newC c m ws st) fun z st' G' H' => ∀ v, RepW Γ G' H' z v → Q v H') :
    ∀ x dx, H x = none → H dx = none → dx ≠ x → spM Γ m (.ref x :: (vs ++ [])) (upd (upd H dx (.own x)) x (.ins (Γ.cls c) dx [])) (fun v H2 => v = .non ∧ Q (.ref x) H2) E := by
  intro x dx hx hd hne
  obtain ⟨s1, ok1⟩ := ok.junk (o := .own x) hd
  have hx1 : upd H dx (.own x) x = none := by rw [upd_ne (Ne.symm hne)]; exact hx
  have nS : ¬ G.S x := fun h => ok.tr x (.inl h) hx
  obtain ⟨s2, ok2⟩ := ok1.newCell (o := .ins (Γ.cls c) dx []) (c := .obj c []) hx1 fun s => ⟨nS, dx, [], upd_same, .nil⟩
  have s := s1.trans s2
  have hx3 : RepW Γ ⟨G.S, G.π ++ [x]⟩ (upd (upd H dx (.own x)) x (.ins (Γ.cls c) dx [])) (.r st.length) (.ref x) := ⟨x, by
    show (G.π ++ [x])[st.length]? = some x
    rw [← ok.len, List.getElem?_append_right (Nat.le_refl _)]
    simp, rfl⟩
  refine ⟨⟨G.S, G.π ++ [x]⟩, st ++ [.obj c []], Wv.r st.length :: ws, ok2, .cons hx3 (by rw [List.append_nil]; exact s.vals r), ?_⟩
  have p : Post Γ E G H (bnd (m (.r st.length :: ws)) (fun z => bnd (isNon' z) fun _ => ret (Wv.r st.length)) (st ++ [.obj c []])) _ := p
  refine (p.step s).bnd.imp fun z st3 G3 H3 s3 ok3 p v rv => ?_
  obtain ⟨e, p⟩ := isNon_inv rv p
  exact ⟨e, p.fin ok3 (s3.val hx3)⟩
theorem e_make {x : Str} {p : Pos} (Mk1 : Mk X.K (Γ.cls c) f) (F : FnM Γ X.prog X.w X.K X.mg X.base k f fd ps m) (hr : Room (k + 1) X.A) (hm : X.mg x = some (.ref (Γ.cls c))) (hb : Binds X.K fd ps []) (hx : Passes (L2.CX X.prog X.w) X E) (ha : PA X (e :: es) (aM Γ E a))
    (hg : Gl X x := by rfl) (hdb : (x == ("__debug__" : Str)) = false := by decide) (he : starEach (e :: es) X.env = (false, eval e X.env) :: starEach es X.env := by rfl) (hpl : (backTo pos (starEach es X.env)).any (·.1) = false := by rfl) :
    PE X (.Call (.Name x p) (e :: es) [] pos) (tM Γ E (mMake c m a)) := PEw (pe_make Mk1 F hr hg hm hb .nil hx ha hdb he hpl) fun σ H Q h => by
  refine At.bnd (f := fun ws _ => newC c m ws) h fun ws st G H1 ok ⟨env, re, p⟩ vs rvs => ?_
  exact new_of ok rvs p
theorem e_make0 {x : Str} {p : Pos} (Mk1 : Mk X.K (Γ.cls c) f) (F : FnM Γ X.prog X.w X.K X.mg X.base k f fd ps m) (hr : Room (k + 1) X.A) (hm : X.mg x = some (.ref (Γ.cls c))) (hb : Binds X.K fd ps []) (hx : Passes (L2.CX X.prog X.w) X E)
    (hg : Gl X x := by rfl) (hdb : (x == ("__debug__" : Str)) = false := by decide) :
    PE X (.Call (.Name x p) [] [] pos) (tM Γ E (mMake c m mNil)) := PEw (pe_make0 Mk1 F hr hg hm hb .nil hx hdb) fun σ H Q h => by
  obtain ⟨G, env, st, ok, re, p⟩ := h
  exact new_of ok .nil p
/-- frozen: __init__ runs on a store of its own -/
def datF : List (Str × Wv) → Option (List (Str × Py))
  | [] => some []
  | (f, .d x) :: r => (datF r).map ((f, x) :: ·)
  | (_, .r _) :: _ => none
theorem datF_rep {G : Gh} {H : Hp} : ∀ {ws : List (Str × Wv)} {ds : List (Str × Py)} {gs : List (Str × V)}, datF ws = some ds → RepWF Γ G H ws gs → RepF Γ G.S H ds gs
  | [], _, _, e, .nil => by cases e; exact .nil
  | (f, .d x) :: r, ds, (g, y) :: _, e, .cons h t => by
    unfold datF at e
    obtain ⟨ds', e1, e2⟩ := Option.map_eq_some_iff.mp e
    subst e2
    obtain ⟨h1, h2⟩ := h
    dsimp only at h1 h2
    subst h1
    exact .cons h2 (datF_rep e1 t)
  | (_, .r _) :: _, _, _, e, _ => by cases e
def newF (c : Nat) (m : List Wv → M Wv) (ws : List Wv) : M Wv := fun st => match allD ws with
  | none => .bad
  | some _ => match m (.r 0 :: ws) [.obj c []] with
    | .ok (.d .non) (.obj c' fs :: _) => match datF fs with
      | some ds => if c' = c then .ok (.d (.obj c ds)) st else .bad
      | none => .bad
    | .ex x _ => .ex x st
    | _ => .bad
theorem newF_of {G : Gh} {H : Hp} {st : Store} {ws : List Wv} {vs : List V} {Q : VK} (ok : GOk Γ G H st) (r : RepWL Γ G H ws vs) (p : Post Γ E G H (newF c m ws st) fun z st' G' H' => ∀ v, RepW Γ G' H' z v → Q v H') :
    ∀ x dx, H x = none → H dx = none → dx ≠ x → spM Γ m (.ref x :: (vs ++ [])) (upd (upd H dx (.own x)) x (.ins (Γ.cls c) dx [])) (fun v H2 => v = .non ∧ Q (.ref x) H2) E := by
  intro x dx hx hd hne
  unfold newF at p
  cases e : allD ws with
  | none => simp only [e] at p; exact p.elim
  | some ds =>
    simp only [e] at p
    have ok0 : GOk Γ ⟨G.S, []⟩ H [] := ok.alone
    obtain ⟨s1, ok1⟩ := ok0.junk (o := .own x) hd
    have hx1 : upd H dx (.own x) x = none := by rw [upd_ne (Ne.symm hne)]; exact hx
    have nS : ¬ G.S x := fun h => ok.tr x (.inl h) hx
    obtain ⟨s2, ok2⟩ := ok1.newCell (o := .ins (Γ.cls c) dx []) (c := .obj c []) hx1 fun s => ⟨nS, dx, [], upd_same, .nil⟩
    have s := s1.trans s2
    refine ⟨⟨G.S, [x]⟩, [.obj c []], Wv.r 0 :: ws, ok2, .cons ⟨x, rfl, rfl⟩ (by rw [List.append_nil]; exact s.vals (allD_any (G := G) (G' := ⟨G.S, []⟩) rfl e r)), ?_⟩
    have h2 : ∀ a o, H a = some o → upd (upd H dx (.own x)) x (.ins (Γ.cls c) dx []) a = some o := fun a o e => by
      rw [upd_ne (ne_of_none e hx), upd_ne (ne_of_none e hd)]; exact e
    have hq : ∀ a ∈ [x], H a = none := fun a h => by
      have : a = x := by simpa using h
      subst this; exact hx
    cases e2 : m (.r 0 :: ws) [.obj c []] with
    | bad => simp only [e2] at p; exact p.elim
    | ex x' st' =>
      simp only [e2] at p ⊢
      intro G' H' c' dx' s' ok' xr
      obtain ⟨s3, ok3⟩ := ok.back (q := [x]) (T := G'.S) hq h2 s' (fun a h => .inl h) (fun a h => h) (fun a h => ok'.tr a (.inl h))
      exact p _ _ c' dx' s3 ok3 xr
    | ok z st' =>
      simp only [e2] at p ⊢
      intro G' H' s' ok' v rv
      cases z with
      | r n => exact p.elim
      | d z =>
        cases z with
        | non =>
          cases rv
          cases st' with
          | nil => exact p.elim
          | cons cl st' =>
            cases cl with
            | obj c' fs =>
              cases e3 : datF fs with
              | none => simp only [e3] at p; exact p.elim
              | some ds' =>
                simp only [e3] at p
                by_cases hc : c' = c
                · rw [if_pos hc] at p
                  subst hc
                  have hp : G'.π[0]? = some x := s'.pi (n := 0) (a := x) rfl
                  obtain ⟨nS', dx', gs, ha, hr⟩ := ok'.cells 0 x _ hp rfl
                  obtain ⟨s3, ok3⟩ := ok.back (q := [x]) (T := fun a => G'.S a ∨ a = x) hq h2 s' (fun a h => h.elim .inl fun h => .inr (by simp [h])) (fun a h => .inl h) (fun a h => h.elim (fun h => ok'.tr a (.inl h)) fun h => by subst h; rw [ha]; simp)
                  refine ⟨rfl, p _ _ s3 ok3 (.ref x) (.obj (.inr rfl) ha ?_)⟩
                  exact RepF.mono (fun _ h => .inl h) (fun _ _ _ h => h) (datF_rep e3 hr)
                · rw [if_neg hc] at p; exact p.elim
            | _ => exact p.elim
        | _ => exact p.elim
theorem e_makeF {x : Str} {p : Pos} (Mk1 : Mk X.K (Γ.cls c) f) (F : FnM Γ X.prog X.w X.K X.mg X.base k f fd ps m) (hr : Room (k + 1) X.A) (hm : X.mg x = some (.ref (Γ.cls c))) (hb : Binds X.K fd ps []) (hx : Passes (L2.CX X.prog X.w) X E) (ha : PA X (e :: es) (aM Γ E a))
    (hg : Gl X x := by rfl) (hdb : (x == ("__debug__" : Str)) = false := by decide) (he : starEach (e :: es) X.env = (false, eval e X.env) :: starEach es X.env := by rfl) (hpl : (backTo pos (starEach es X.env)).any (·.1) = false := by rfl) :
    PE X (.Call (.Name x p) (e :: es) [] pos) (tM Γ E (mL (newF c m) a)) := PEw (pe_make Mk1 F hr hg hm hb .nil hx ha hdb he hpl) fun σ H Q h => by
  refine At.bnd (f := fun ws _ => newF c m ws) h fun ws st G H1 ok ⟨env, re, p⟩ vs rvs => ?_
  exact newF_of ok rvs p
theorem e_makeF0 {x : Str} {p : Pos} (Mk1 : Mk X.K (Γ.cls c) f) (F : FnM Γ X.prog X.w X.K X.mg X.base k f fd ps m) (hr : Room (k + 1) X.A) (hm : X.mg x = some (.ref (Γ.cls c))) (hb : Binds X.K fd ps []) (hx : Passes (L2.CX X.prog X.w) X E)
    (hg : Gl X x := by rfl) (hdb : (x == ("__debug__" : Str)) = false := by decide) :
    PE X (.Call (.Name x p) [] [] pos) (tM Γ E (mL (newF c m) mNil)) := PEw (pe_make0 Mk1 F hr hg hm hb .nil hx hdb) fun σ H Q h => by
  obtain ⟨G, env, st, ok, re, p⟩ := h
  exact newF_of ok .nil p
end

/-! ### freezing -/
/-- the cell n is changed no more: it is data from now on -/
def frz1 (w : Wv) : M Py := match w with
  | .d x => ret x
  | .r n => fun st => match st[n]? with
    | some (.lst ws) => match allD ws with
      | some ds => .ok (.lst ds) (st.set n .dead)
      | none => .bad
    | some (.obj c fs) => match datF fs with
      | some ds => .ok (.obj c ds) (st.set n .dead)
      | none => .bad
    | _ => .bad
/-- lists of cells too -/
def frzAll : List Wv → M (List Py)
  | [] => ret []
  | w :: ws => bnd (frz1 w) fun x => bnd (frzAll ws) fun xs => ret (x :: xs)
def frz2 (w : Wv) : M Py := match w with
  | .d x => ret x
  | .r n => fun st => match st[n]? with
    | some (.lst ws) => bnd (frzAll ws) (fun ds st => .ok (.lst ds) (st.set n .dead)) st
    | _ => frz1 (.r n) st
theorem GOk.kill {G : Gh} {H : Hp} {st : Store} {n : Nat} {a : Addr} (ok : GOk Γ G H st) (hp : G.π[n]? = some a) : Step G H ⟨fun b => G.S b ∨ b = a, G.π⟩ H ∧ GOk Γ ⟨fun b => G.S b ∨ b = a, G.π⟩ H (st.set n .dead) := by
  have hm : a ∈ G.π := List.mem_of_getElem? hp
  have s : Step G H ⟨fun b => G.S b ∨ b = a, G.π⟩ H := ⟨⟨[], by simp⟩, fun b h => .inl h, fun b o e _ => e, fun b h => by
    rcases h with (h | h) | h
    · exact .inl h
    · subst h; exact .inr (.inl hm)
    · exact .inr (.inl h)⟩
  refine ⟨s, by rw [List.length_set]; exact ok.len, ok.nd, fun b h => ?_, fun m b d e1 e2 => ?_⟩
  · rcases h with (h | h) | h
    · exact ok.tr b (.inl h)
    · subst h; exact ok.tr _ (.inr hm)
    · exact ok.tr b (.inr h)
  · by_cases hmn : n = m
    · subst hmn
      have hl : n < st.length := by rw [← ok.len]; exact (List.getElem?_eq_some_iff.mp hp).1
      rw [List.getElem?_set_self hl] at e2
      cases e2
      trivial
    · rw [List.getElem?_set_ne hmn] at e2
      have q := ok.cells m b d e1 e2
      have hba : b ≠ a := fun e => nodup_ne ok.nd hp e1 hmn e.symm
      cases d with
      | dead => trivial
      | lst ws =>
        obtain ⟨h1, xs, h2, h3⟩ := q
        exact ⟨fun z => z.elim h1 hba, xs, h2, s.vals h3⟩
      | obj c fs =>
        obtain ⟨h1, dx, gs, h2, h3⟩ := q
        exact ⟨fun z => z.elim h1 hba, dx, gs, h2, s.flds h3⟩
theorem frz1_inv {α : Type} {G : Gh} {H : Hp} {st : Store} {w : Wv} {v : V} {f : Py → M α} {K : α → Store → Gh → Hp → Prop} (ok : GOk Γ G H st) (r : RepW Γ G H w v) (p : Post Γ E G H (bnd (frz1 w) f st) K) :
    ∃ x G' st', Step G H G' H ∧ GOk Γ G' H st' ∧ Rep Γ G'.S H x v ∧ G'.π = G.π ∧ Post Γ E G' H (f x st') K := by
  cases w with
  | d x => exact ⟨x, G, st, .refl, ok, r, rfl, p⟩
  | r n =>
    obtain ⟨a, e, rfl⟩ := r
    have p : Post Γ E G H (bnd (fun st => match st[n]? with
      | some (.lst ws) => match allD ws with
        | some ds => .ok (.lst ds) (st.set n .dead)
        | none => .bad
      | some (.obj c fs) => match datF fs with
        | some ds => .ok (.obj c ds) (st.set n .dead)
        | none => .bad
      | _ => .bad) f st) K := p
    unfold bnd at p
    obtain ⟨s, ok'⟩ := ok.kill e
    cases h : st[n]? with
    | none => simp only [h] at p; exact p.elim
    | some c =>
      cases c with
      | lst ws =>
        simp only [h] at p
        cases h4 : allD ws with
        | none => simp only [h4] at p; exact p.elim
        | some ds =>
          simp only [h4] at p
          obtain ⟨xs, _, h2, h3⟩ := cell_lst ok e h
          exact ⟨.lst ds, _, _, s, ok', .lst (.inr rfl) (.inl h2) (s.dataL (allD_rep h4 h3)), rfl, p.step s⟩
      | obj c fs =>
        simp only [h] at p
        cases h4 : datF fs with
        | none => simp only [h4] at p; exact p.elim
        | some ds =>
          simp only [h4] at p
          obtain ⟨_, dx, gs, h2, h3⟩ := ok.cells n a _ e h
          exact ⟨.obj c ds, _, _, s, ok', .obj (.inr rfl) h2 (s.dataF (datF_rep h4 h3)), rfl, p.step s⟩
      | dead => simp only [h] at p; exact p.elim
theorem frzAll_inv {α : Type} {K : α → Store → Gh → Hp → Prop} : ∀ {ws : List Wv} {vs : List V} {G : Gh} {H : Hp} {st : Store} {f : List Py → M α}, GOk Γ G H st → RepWL Γ G H ws vs → Post Γ E G H (bnd (frzAll ws) f st) K →
    ∃ xs G' st', Step G H G' H ∧ GOk Γ G' H st' ∧ RepL Γ G'.S H xs vs ∧ G'.π = G.π ∧ Post Γ E G' H (f xs st') K
  | _, _, G, H, st, f, ok, .nil, p => ⟨[], G, st, .refl, ok, .nil, rfl, p⟩
  | _, _, G, H, st, f, ok, .cons r t, p => by
    unfold frzAll at p
    rw [bnd_assoc] at p
    obtain ⟨x, G1, st1, s1, ok1, r1, e1, p⟩ := frz1_inv ok r p
    rw [bnd_assoc] at p
    obtain ⟨xs, G2, st2, s2, ok2, r2, e2, p⟩ := frzAll_inv ok1 (s1.vals t) p
    exact ⟨x :: xs, G2, st2, s1.trans s2, ok2, .cons (s2.data r1) r2, e2.trans e1, p⟩
theorem frz2_inv {α : Type} {G : Gh} {H : Hp} {st : Store} {w : Wv} {v : V} {f : Py → M α} {K : α → Store → Gh → Hp → Prop} (ok : GOk Γ G H st) (r : RepW Γ G H w v) (p : Post Γ E G H (bnd (frz2 w) f st) K) :
    ∃ x G' st', Step G H G' H ∧ GOk Γ G' H st' ∧ Rep Γ G'.S H x v ∧ G'.π = G.π ∧ Post Γ E G' H (f x st') K := by
  cases w with
  | d x => exact ⟨x, G, st, .refl, ok, r, rfl, p⟩
  | r n =>
    have r0 := r
    obtain ⟨a, e, rfl⟩ := r
    have p : Post Γ E G H (bnd (fun st => match st[n]? with
      | some (.lst ws) => bnd (frzAll ws) (fun ds st => .ok (.lst ds) (st.set n .dead)) st
      | _ => frz1 (.r n) st) f st) K := p
    cases h : st[n]? with
    | none =>
      refine frz1_inv ok r0 ?_
      unfold bnd at p ⊢
      simp only [h] at p
      exact p
    | some c =>
      cases c with
      | lst ws =>
        obtain ⟨xs, _, h2, h3⟩ := cell_lst ok e h
        have p : Post Γ E G H (bnd (frzAll ws) (fun ds => bnd (fun st => .ok (.lst ds) (st.set n .dead)) f) st) K := by
          rw [← bnd_assoc]
          unfold bnd at p ⊢
          simp only [h] at p
          exact p
        obtain ⟨ds, G1, st1, s1, ok1, r1, e1, p⟩ := frzAll_inv ok h3 p
        have ea : G1.π[n]? = some a := by rw [e1]; exact e
        obtain ⟨s, ok'⟩ := ok1.kill ea
        have h2' : H a = some (.lst xs) := h2
        exact ⟨.lst ds, _, _, s1.trans s, ok', .lst (.inr rfl) (.inl h2') (s.dataL r1), e1, p.step s⟩
      | obj c fs =>
        refine frz1_inv ok r0 ?_
        unfold bnd at p ⊢
        simp only [h] at p
        exact p
      | dead =>
        refine frz1_inv ok r0 ?_
        unfold bnd at p ⊢
        simp only [h] at p
        exact p
/-- an expression's value, frozen -/
@[simp] def mFrz (z : Wv → M Py) (m : Env' → M Wv) : Env' → M Wv := fun env => bnd (m env) fun w => bnd (z w) fun x => ret (.d x)
theorem e_frz {e : Expr} {m : Env' → M Wv} (h : PE X e (tM Γ E m)) : PE X e (tM Γ E (mFrz frz2 m)) := PEw h fun σ H Q q => by
  refine At.bnd (f := fun w _ => bnd (frz2 w) fun x => (ret (.d x) : M Wv)) q fun w st G H1 ok ⟨env, re, p⟩ v rv => ?_
  obtain ⟨x, G', st', s, ok', r, _, p⟩ := frz2_inv ok rv p
  exact p.now ok' v r
/-- a slot, frozen ahead of a statement -/
@[simp] def mFrzV (i : Nat) (b : Env' → M Fl) : Env' → M Fl := fun env => bnd (mVar i env) fun w => bnd (frz2 w) fun x => b (env.set i (some (.d x)))
theorem frzV_of {i : Nat} {b : Env' → M Fl} {D : Ends} {σ : L2.St} {H : Hp} (q : tS Γ E (mFrzV i b) D σ H) : tS Γ E b D σ H := by
  obtain ⟨G, env, st, ok, re, p⟩ := q
  unfold mFrzV mVar at p
  cases h : env[i]? with
  | none => simp only [h] at p; exact p.elim
  | some o =>
    cases o with
    | none => simp only [h] at p; exact p.elim
    | some w =>
      simp only [h] at p
      obtain ⟨v, h1, h2⟩ := re.2 i w h
      have p : Post Γ E G H (bnd (frz2 w) (fun x => b (env.set i (some (.d x)))) st) (FlK Γ D) := p
      obtain ⟨x, G', st', s, ok', r, _, p⟩ := frz2_inv ok h2 p
      have re' := (re.step s).set (i := i) (w := .d x) (v := v) r
      have e : σ.set i (some v) = σ := by
        apply List.ext_getElem?
        intro j
        by_cases hj : i = j
        · subst hj
          have hl := (List.getElem?_eq_some_iff.mp h1).1
          rw [List.getElem?_set_self hl, h1]
        · rw [List.getElem?_set_ne hj]
      rw [e] at re'
      exact ⟨G', _, st', ok', re', p⟩
theorem s_frz {s : Stmt} {b : Env' → M Fl} (i : Nat) (h : PS X s (tS Γ E b)) : PS X s (tS Γ E (mFrzV i b)) := PSw h fun D σ H q => frzV_of q
theorem ss_frz {s : List Stmt} {b : Env' → M Fl} (i : Nat) (h : PSs X s (tS Γ E b)) : PSs X s (tS Γ E (mFrzV i b)) := PSsw h fun D σ H q => frzV_of q
end
end Bj

set_option Elab.async false
set_option linter.all false
set_option maxRecDepth 100000
set_option maxHeartbeats 1000000
/-! The mirror layer, part L: own ==, membership, match, a try whose body raises nothing. -/
namespace Bj
open PySem PySem.Spec PyProof.Rows L2
section
variable {Γ : Gam} {E : XK} {X : Cx}

/-! ### own == -/
def oOwn (c : Nat) (m : List Wv → M Wv) (neg : Bool) (w u : Wv) : M Wv := bnd (chkC c w) fun _ => bnd (chkC c u) fun _ => bnd (m [w, u]) fun z => bnd (blD z) fun b => ret (.d (.bl (if neg then !b else b)))
theorem run_at {k : Nat} {f : Addr} {fd : FuncData} {ps : List Str} {sp : Sp} {E' : XK} {pins : List (Addr × Obj)} {σ : L2.St} {H : Hp} {s : Shared} {Q : VK} {us : List Value} {vs : List V} {A : Around} (F : FnOk X.prog X.w X.K X.mg X.base (L2.CX X.prog X.w) k f fd ps sp)
    (hr : Room k A) (hfr : A.frames = X.A.frames) (hb : Binds X.K fd ps []) (hx : Passes (L2.CX X.prog X.w) X E') (I : Inv X pins σ H s) (r : Vals vs us) (h : sp vs H Q E') : wpAny (model X.prog X.w) A (call (.ref f) us) (EP X pins σ Q) X.xe s := by
  have hl : (us ++ []).length = ps.length := by rw [List.append_nil, ← r.length]; exact F.len _ _ _ _ h
  have e0 : Env0 X.prog X.w X.K X.mg X.base A X.stack s H := by
    have e := I.env0
    exact ⟨by rw [hfr]; exact e.frames, e.mod, e.bs, e.bsz, e.funs, e.frf, e.hok, e.bare⟩
  refine wpAny_call (codeAny_mono (F.run A X.stack s H ⟨us, []⟩ us vs Q E' hr e0 (by
    have := hb s us I.kIn hl
    rw [List.append_nil] at this
    exact this) r h) fun r s' hq => ?_)
  cases r with
  | error e => exact hx pins σ H s e s' I hq
  | ok fl =>
    cases fl with
    | ret u => exact I.after hq
    | next => exact False.elim hq
    | brk => exact False.elim hq
    | cont => exact False.elim hq
theorem chkC_post {c : Nat} {α : Type} {G : Gh} {H : Hp} {st : Store} {w : Wv} {v : V} {f : M α} {K : α → Store → Gh → Hp → Prop} (ok : GOk Γ G H st) (r : RepW Γ G H w v) (p : Post Γ E G H (bnd (chkC c w) (fun _ => f) st) K) :
    (∃ a dx gs, v = .ref a ∧ H a = some (.ins (Γ.cls c) dx gs)) ∧ Post Γ E G H (f st) K := by
  obtain ⟨a, dx, gs, h1, h2, p⟩ := chkC_inv ok r p
  exact ⟨⟨a, dx, gs, h1, h2⟩, p⟩
section
variable {k c : Nat} {f : Addr} {fd : FuncData} {ps : List Str} {m : List Wv → M Wv}
theorem own_sp {G : Gh} {H : Hp} {st : Store} {w u : Wv} {x y : V} {neg : Bool} {Q : VK} (ok : GOk Γ G H st) (r1 : RepW Γ G H w x) (r2 : RepW Γ G H u y) (p : Post Γ E G H (oOwn c m neg w u st) fun z st' G' H' => ∀ v, RepW Γ G' H' z v → Q v H') :
    ∃ a b dx dy fs gs, x = .ref a ∧ y = .ref b ∧ H a = some (.ins (Γ.cls c) dx fs) ∧ H b = some (.ins (Γ.cls c) dy gs) ∧ spM Γ m [x, y] H (fun v H' => ∃ k, v = .bl k ∧ Q (.bl (if neg then !k else k)) H') E := by
  unfold oOwn at p
  obtain ⟨⟨a, dx, fs, rfl, ha⟩, p⟩ := chkC_post ok r1 p
  obtain ⟨⟨b, dy, gs, rfl, hb⟩, p⟩ := chkC_post ok r2 p
  refine ⟨a, b, dx, dy, fs, gs, rfl, rfl, ha, hb, G, st, [w, u], ok, .cons r1 (.cons r2 .nil), p.bnd.imp fun z st1 G1 H1 s1 ok1 p v rv => ?_⟩
  obtain ⟨k, rfl, p⟩ := blD_inv rv p
  exact ⟨k, rfl, p.fin ok1 (.bl _)⟩
theorem r_ownEq (F : FnM Γ X.prog X.w X.K X.mg X.base k f fd ps m) (hr : Room k X.A) (hb : Binds X.K fd ps []) (hx : Passes (L2.CX X.prog X.w) X E)
    (hs : PySem.W.findIn X.K (.ref (Γ.cls c)) "__eq__" = some (some (.ref f))) (hf : PySem.W.isFn X.K (.ref f) = true) : OpR X (compareOp .Eq) (rM Γ E (oOwn c m false)) := by
  intro pins s σ H x y v u Q I rx ry q
  obtain ⟨G, st, w, u', ok, r1, r2, p⟩ := q
  obtain ⟨a, b, dx, dy, fs, gs, rfl, rfl, ha, hb', hsp⟩ := own_sp ok r1 r2 p
  cases rx
  cases ry
  obtain ⟨mA, J, _⟩ := ins_get I.hok ha
  obtain ⟨mB, J', _⟩ := ins_get I.hok hb'
  obtain ⟨od, J, _⟩ := J.look
  obtain ⟨od', J', _⟩ := J'.look
  obtain ⟨m', hF⟩ := I.fr
  show wpAny (model X.prog X.w) X.A (richCompare .Eq (.ref a) (.ref b)) (EP X pins σ Q) X.xe s
  refine PySem.W.cmp_K (op := .Eq) (tb := .ref (Γ.cls c)) hr.units0 hF I.ok.mod.kin J J'.type (by simp [PySem.W.notFirst]) hs hf ?_
  refine wpAny_mono (run_at F hr rfl hb hx I (vs := [.ref a, .ref b]) (.cons rfl (.cons rfl .nil)) hsp) (fun r s' z => ?_) fun _ _ e => e
  obtain ⟨v', H', I', rv, k', rfl, q⟩ := z
  cases rv
  exact ⟨.bl _, H', I', rfl, q⟩
/-- != by the text's own ==, object.__ne__ between them -/
theorem bound_ne {prog : Program} {w : World} {A : Around} {E : Value → Shared → Prop} {s : Shared} {K : PySem.W.Frag} {x y C f : Addr} {ox : Obj} {od : Option Obj} {Q : Value → Shared → Prop} (hu : A.units + 1 < cLine) (X : K.In s.heap) (I : PySem.W.InstAt s.heap x ox C od)
    (hn : PySem.W.findIn K (.ref C) "__ne__" = some (some (.builtin "object.__ne__"))) (hm : PySem.W.mroIn K C (.type "object") = some true) (hs : PySem.W.findIn K (.ref C) "__eq__" = some (some (.ref f))) (hf : PySem.W.isFn K (.ref f) = true)
    (h : wpAny (model prog w) A.in1 (call (.ref f) [.ref x, .ref y]) (fun v s' => ∃ b, v = .bool b ∧ Q (.bool (!b)) s') E s) : wpAny (model prog w) A (tryCompare (.ref x) "__ne__" (.ref y)) (fun r s' => ∃ v, r = some v ∧ Q v s') E s := by
  have entry : ∀ {Q' : Fin → Shared → Prop}, wpAny (model prog w) A.in1 (call (.ref f) [.ref x, .ref y]) (fun v s' => ∃ b, v = .bool b ∧ Q' (.done (.ret (.bool (!b)))) s') E s →
      wpAny (model prog w) A.in1 (Builtin.«object.__ne__» ⟨[.ref x, .ref y], []⟩) Q' E s := fun {Q'} hc => by
    unfold Builtin.«object.__ne__»
    have hu1 : A.in1.units < cLine := by show A.units + 1 < cLine; exact hu
    repeat (first
      | with_reducible refine wpAny_cRoomFor hu1 ?_
      | (refine wpAny_bind (m := callSpecialIfBound? (.ref x) (Str.ofString "__eq__") [.ref y])
          (PySem.W.ifBound_K X I hs hf (wpAny_mono hc (fun r s' hr => by
            obtain ⟨b, rfl, hq⟩ := hr
            repeat (first | exact hq | exact wpAny_pure hq | exact wpAny_truthy_bool hq | (refine wpAny_bind (m := truthy (.bool _)) (wpAny_truthy_bool ?_)) | wp_step)) fun _ _ e => e)))
      | wp_step)
  have hcall : wpAny (model prog w) A (call (.builtin "object.__ne__") [.ref x, .ref y]) (fun v s' => ∃ b, v = .bool b ∧ Q (.bool b) s') E s :=
    wpAny_call (codeAny_call_builtin F.cmp_object.ne.plain F.cmpEntry_ne (PySem.W.check_slot F.cmpKind_ne F.cmpSplit_ne (I.type.andThen (PySem.W.looks_mroIn X hm)) (F.cmpArgs_ne _ _) (entry (wpAny_mono h (fun v s' hv => by
      obtain ⟨b, rfl, q⟩ := hv
      exact ⟨b, rfl, _, rfl, q⟩) fun _ _ e => e))))
  have one : wpAny (model prog w) A (callSpecialIfBound? (.ref x) "__ne__" [.ref y]) (fun r s' => ∃ b, r = some (.bool b) ∧ Q (.bool b) s') E s := by
    simp only [callSpecialIfBound?, bindSpecialIfBound?]
    refine wpAny_holding (wpAny_bind (wpAny_bind (wpAny_bind (I.type.here ((PySem.W.looks_findIn X hn).here ?_)))))
    refine wpAny_bind (wpAny_askSetting (wpAny_ite ?_))
    have fin : wpAny (model prog w) A (call (.builtin "object.__ne__") ([.ref x] ++ [.ref y]) >>= fun v => pure (some v)) (fun r s' => ∃ b, r = some (.bool b) ∧ Q (.bool b) s') E s := wpAny_bind (wpAny_mono hcall (fun v s' h' => wpAny_pure (by
      obtain ⟨b, rfl, q⟩ := h'
      exact ⟨b, rfl, q⟩)) fun _ _ h' => h')
    split
    · exact wpAny_bind (wpAny_of_eq (F.cmp_object.ne.bind _) (wpAny_pure (by exact fin)))
    · exact wpAny_tryCatch (wpAny_bind (wpAny_of_eq (F.cmp_object.ne.bind _) (wpAny_pure (by exact fin))))
  unfold tryCompare
  refine wpAny_bind (wpAny_mono one (fun r s' z => ?_) fun _ _ e => e)
  obtain ⟨b, rfl, q⟩ := z
  exact wpAny_pure ⟨_, rfl, q⟩
theorem r_ownNe (F : FnM Γ X.prog X.w X.K X.mg X.base k f fd ps m) (hr : Room (k + 1) X.A) (hb : Binds X.K fd ps []) (hx : Passes (L2.CX X.prog X.w) X E)
    (hs : PySem.W.findIn X.K (.ref (Γ.cls c)) "__eq__" = some (some (.ref f))) (hf : PySem.W.isFn X.K (.ref f) = true) (hn : PySem.W.findIn X.K (.ref (Γ.cls c)) "__ne__" = some (some (.builtin "object.__ne__")))
    (hm : PySem.W.mroIn X.K (Γ.cls c) (.type "object") = some true) : OpR X (compareOp .NotEq) (rM Γ E (oOwn c m true)) := by
  intro pins s σ H x y v u Q I rx ry q
  obtain ⟨G, st, w, u', ok, r1, r2, p⟩ := q
  obtain ⟨a, b, dx, dy, fs, gs, rfl, rfl, ha, hb', hsp⟩ := own_sp ok r1 r2 p
  cases rx
  cases ry
  obtain ⟨mA, J, _⟩ := ins_get I.hok ha
  obtain ⟨mB, J', _⟩ := ins_get I.hok hb'
  obtain ⟨od, J, _⟩ := J.look
  obtain ⟨od', J', _⟩ := J'.look
  show wpAny (model X.prog X.w) X.A (richCompare .NotEq (.ref a) (.ref b)) (EP X pins σ Q) X.xe s
  have hr1 : Room k X.A.in1 := hr.in1
  have one := bound_ne (Q := EP X pins σ Q) (y := b) (E := X.xe) (prog := X.prog) (w := X.w) (by have := hr.un; omega) I.kIn J hn hm hs hf (wpAny_mono (run_at F hr1 rfl hb hx I (vs := [.ref a, .ref b]) (.cons rfl (.cons rfl .nil)) hsp) (fun r s' z => by
    obtain ⟨v', H', I', rv, k', rfl, q⟩ := z
    cases rv
    exact ⟨k', rfl, .bl _, H', I', rfl, q⟩) fun _ _ e => e)
  unfold richCompare
  simp only [oneThing_ref]
  refine wpAny_holding ?_
  refine wpAny_bind (wpAny_cRoomFor hr.units0 ?_)
  rw [cmpInfo_NotEq]
  dsimp only
  refine wpAny_bind (J.type.here (wpAny_bind (J'.type.here ?_)))
  rw [show (Value.ref (Γ.cls c) != Value.ref (Γ.cls c)) = false from by simp]
  simp only [Bool.false_eq_true, if_false]
  refine wpAny_bind (wpAny_pure ?_)
  simp only [Bool.false_eq_true, if_false]
  refine wpAny_bind (wpAny_mono one (fun r s' z => ?_) fun _ _ e => e)
  obtain ⟨v, rfl, q⟩ := z
  exact wpAny_pure q
end
/-- objects of the class c by their own ==, else o -/
def orOwn (c : Nat) (m : List Wv → M Wv) (neg : Bool) (o : Wv → Wv → M Wv) (w u : Wv) : M Wv := match w with
  | .d (.obj c' fs) => if c' = c then oOwn c m neg (.d (.obj c' fs)) u else o (.d (.obj c' fs)) u
  | w => o w u
theorem r_orOwn {op : CmpOp} {c : Nat} {m : List Wv → M Wv} {neg : Bool} {o : Wv → Wv → M Wv} (h1 : OpR X (compareOp op) (rM Γ E (oOwn c m neg))) (h2 : OpR X (compareOp op) (rM Γ E o)) : OpR X (compareOp op) (rM Γ E (orOwn c m neg o)) :=
  OpR.orM h1 h2 fun w u => by
    cases w with
    | r n => exact .inr rfl
    | d x =>
      cases x with
      | obj c' fs =>
        unfold orOwn
        by_cases h : c' = c
        · exact .inl (if_pos h)
        · exact .inr (if_neg h)
      | _ => exact .inr rfl

/-! ### membership -/
def inP (x : Py) (l : List Py) : Bool := l.any fun z => eqP z x
def oInL (neg : Bool) (w u : Wv) : M Wv := bnd (pyD w) fun x => bnd (lstD u) fun l => if okD 20 x = true ∧ okD 20 (.lst l) = true then ret (.d (.bl (if neg then !inP x l else inP x l))) else bad
theorem any_eqv {x : Py} (hx : okD 20 x = true) : ∀ {l : List Py}, okDs 19 l = true → ((toPDs l).any fun z => PyData.eqv z (toPD x)) = inP x l
  | [], _ => rfl
  | y :: l, h => by
    simp only [okDs, Bool.and_eq_true] at h
    have e := eqv_toPD 20 y x (okD_mono h.1) hx
    have ih := any_eqv hx h.2
    unfold inP at ih ⊢
    simp only [toPDs, List.any_cons, e, ih]
where
  okD_mono : ∀ {y : Py}, okD 19 y = true → okD 20 y = true := by
    have go : ∀ (k : Nat), (∀ y, okD k y = true → okD (k + 1) y = true) ∧ (∀ l, okDs k l = true → okDs (k + 1) l = true) := by
      intro k
      induction k with
      | zero =>
        have h1 : ∀ y, okD 0 y = true → okD 1 y = true := fun y h => by cases y <;> first | rfl | (simpa [okD] using h) | (simp [okD] at h)
        refine ⟨h1, fun l => ?_⟩
        induction l with
        | nil => intro _; rfl
        | cons y l ih => intro h; simp only [okDs, Bool.and_eq_true] at h ⊢; exact ⟨h1 y h.1, ih h.2⟩
      | succ k ih =>
        have h1 : ∀ y, okD (k + 1) y = true → okD (k + 1 + 1) y = true := fun y h => by
          cases y with
          | tup l => simp only [okD] at h ⊢; exact ih.2 l h
          | lst l => simp only [okD] at h ⊢; exact ih.2 l h
          | str s => simpa [okD] using h
          | obj c fs => simp [okD] at h
          | _ => rfl
        refine ⟨h1, fun l => ?_⟩
        induction l with
        | nil => intro _; rfl
        | cons y l ih2 => intro h; simp only [okDs, Bool.and_eq_true] at h ⊢; exact ⟨h1 y h.1, ih2 h.2⟩
    intro y h
    exact (go 19).1 y h
theorem inL_of {neg : Bool} {G : Gh} {H : Hp} {st : Store} {w u : Wv} {x y : V} {Q : VK} (ok : GOk Γ G H st) (r1 : RepW Γ G H w x) (r2 : RepW Γ G H u y) (p : Post Γ E G H (oInL neg w u st) fun z st' G' H' => ∀ v, RepW Γ G' H' z v → Q v H') :
    ∃ d ds, Dp X.K H x d ∧ Dp X.K H y (.list ds) ∧ SeqAt.shaped d = true ∧ SeqAt.shaped (.list ds) = true ∧ Q (.bl (if neg then !(ds.any fun z => PyData.eqv z d) else ds.any fun z => PyData.eqv z d)) H := by
  obtain ⟨d, n1, p⟩ := pyD_inv ok r1 p
  obtain ⟨l, a, xs, rfl, h1, h2, p⟩ := lstD_inv ok r2 p
  obtain ⟨⟨g1, g2⟩, p⟩ := p.iff
  have g2' : okDs 19 l = true := by simpa [okD] using g2
  refine ⟨toPD d, toPDs l, n1.dp g1, .lst (Rd.sql h1) (RepL.dps (k := 19) g2' h2), okD_shaped g1, okD_shaped (x := .lst l) g2, ?_⟩
  rw [any_eqv g1 g2']
  exact p.fin ok (.bl _)
theorem r_inL (hu : X.A.units + 65 < cLine) : OpR X (compareOp .In) (rM Γ E (oInL false)) := OpRw (op_inD hu) fun x y H Q q => by
  obtain ⟨G, st, w, u, ok, r1, r2, p⟩ := q
  obtain ⟨d, ds, h1, h2, h3, h4, q⟩ := inL_of (X := X) ok r1 r2 p
  exact ⟨d, ds, h1, h2, h3, h4, q⟩
theorem r_ninL (hu : X.A.units + 65 < cLine) : OpR X (compareOp .NotIn) (rM Γ E (oInL true)) := OpRw (op_notInD hu) fun x y H Q q => by
  obtain ⟨G, st, w, u, ok, r1, r2, p⟩ := q
  obtain ⟨d, ds, h1, h2, h3, h4, q⟩ := inL_of (X := X) ok r1 r2 p
  exact ⟨d, ds, h1, h2, h3, h4, q⟩
/-- one sign in a text -/
def oInS (w u : Wv) : M Wv := bnd (strD w) fun s => bnd (strD u) fun t => match s.cps.toList with
  | [c] => ret (.d (.bl (decide (c ∈ t.cps.toList))))
  | _ => bad
theorem r_inS : OpR X (compareOp .In) (rM Γ E oInS) := OpRw op_inS fun x y H Q q => by
  obtain ⟨G, st, w, u, ok, r1, r2, p⟩ := q
  obtain ⟨s, rfl, p⟩ := strD_inv r1 p
  obtain ⟨t, rfl, p⟩ := strD_inv r2 p
  obtain ⟨⟨cs⟩⟩ := s
  match cs, p with
  | [c], p => exact ⟨c, t, rfl, rfl, p.fin ok (.bl _)⟩
  | [], p => exact p.elim
  | _ :: _ :: _, p => exact p.elim
def oIn (w u : Wv) : M Wv := match u with
  | .d (.str s) => oInS w (.d (.str s))
  | u => oInL false w u
theorem r_in (hu : X.A.units + 65 < cLine) : OpR X (compareOp .In) (rM Γ E oIn) := OpR.orM r_inS (r_inL hu) fun w u => by
  cases u with
  | r n => exact .inr rfl
  | d x => cases x <;> (first | exact .inl rfl | exact .inr rfl)

/-! ### match e: case [a, b] if g: .. case _: .. -/
def mMatch2 (i j : Nat) (e : Env' → M Wv) (g : Env' → M Bool) (b1 b2 : Env' → M Fl) : Env' → M Fl := fun env => bnd (e env) fun w => bnd (lstD w) fun l => match l with
  | [x, y] => bnd (g ((env.set i (some (.d x))).set j (some (.d y)))) fun c => if c then b1 ((env.set i (some (.d x))).set j (some (.d y))) else b2 ((env.set i (some (.d x))).set j (some (.d y)))
  | _ => b2 env
theorem s_match2 {i j : Nat} {x y : Str} {e g : Expr} {body body2 : List Stmt} {me : Env' → M Wv} {mg : Env' → M Bool} {b1 b2 : Env' → M Fl} {p1 p2 p3 p4 pos : Pos} (hN : X.N.Nodup) (he : PE X e (tM Γ E me)) (hg : PT X g (tB' Γ E mg)) (hb1 : PSs X body (tS Γ E b1)) (hb2 : PSs X body2 (tS Γ E b2))
    (hi : X.N[i]? = some x := by rfl) (hj : X.N[j]? = some y := by rfl) (hx : Loc X.env.scope x := by first | exact Or.inl rfl | exact Or.inr rfl) (hy : Loc X.env.scope y := by first | exact Or.inl rfl | exact Or.inr rfl) (hc : X.calm = true := by rfl)
    (fx : X.fn x = true ∨ X.env.scope.names.lookup x = some .local := by first | exact .inl rfl | exact .inr rfl) (fy : X.fn y = true ∨ X.env.scope.names.lookup y = some .local := by first | exact .inl rfl | exact .inr rfl) :
    PS X (.Match e [⟨.MatchSequence [.MatchAs none (some x) p1, .MatchAs none (some y) p2] p3, some g, body⟩, ⟨.MatchAs none none p4, none, body2⟩] pos) (tS Γ E (mMatch2 i j me mg b1 b2)) := by
  refine ⟨fun pins s σ H D I q => ?_⟩
  refine wpAny_Match (thn (he.run pins s σ H (fun v H1 => ∃ a xs ds G env st, v = .ref a ∧ SqL X.K H1 a xs ∧ RepL Γ G.S H1 ds xs ∧ GOk Γ G H1 st ∧ REnv Γ G H1 env σ ∧ Post Γ E G H1 ((match ds with
    | [x, y] => bnd (mg ((env.set i (some (.d x))).set j (some (.d y)))) fun c => if c = true then b1 ((env.set i (some (.d x))).set j (some (.d y))) else b2 ((env.set i (some (.d x))).set j (some (.d y)))
    | _ => b2 env) st) (FlK Γ D)) I ?_) fun v s1 ⟨v', H1, I1, rv, a, xs, ds, G, env, st, ev, hq, rl, ok, re, p⟩ => ?_)
  · refine At.bnd (f := fun w env => bnd (lstD w) fun l => match l with
      | [x, y] => bnd (mg ((env.set i (some (.d x))).set j (some (.d y)))) fun c => if c = true then b1 ((env.set i (some (.d x))).set j (some (.d y))) else b2 ((env.set i (some (.d x))).set j (some (.d y)))
      | _ => b2 env) q fun w st G H1 ok ⟨env, re, p⟩ v rv => ?_
    obtain ⟨ds, a, xs, rfl, h1, h2, p⟩ := lstD_inv ok rv p
    exact ⟨a, xs, ds, G, env, st, rfl, Rd.sql h1, h2, ok, re, p⟩
  · subst ev
    cases rv
    obtain ⟨its, rv, pl, hle⟩ := I1.list hq
    have els : ∀ {s2 : Shared} {H2 : Hp} {σ2 : L2.St} {G2 : Gh} {env2 : Env'} {st2 : Store} {first : Bool}, Inv X pins σ2 H2 s2 → GOk Γ G2 H2 st2 → REnv Γ G2 H2 env2 σ2 → Post Γ E G2 H2 (b2 env2 st2) (FlK Γ D) →
        wpAny (model X.prog X.w) X.A (matchCases [⟨.MatchAs none none p4, none, body2⟩] X.env (.ref a) first) (SP X pins D) X.xe s2 := fun {s2 H2 σ2 G2 env2 st2 first} I2 ok2 re2 p2 => by
      refine wpAny_matchCases_cons (wpAny_matchPattern_Capture (name := none) ?_)
      exact wpAny_assignInOrder_none (hb2.run pins _ _ _ _ I2 ⟨G2, env2, st2, ok2, re2, p2⟩)
    have hsz : its.toArray.size = xs.length := by rw [List.size_toArray, rv.length]
    have hsl := sizeLine_eq
    have hfit : (its.toArray.size : Int) < 2 ^ 63 := by rw [hsz]; omega
    by_cases hl : ∃ x y, ds = [x, y]
    · obtain ⟨dx, dy, rfl⟩ := hl
      cases rl with
      | cons r1 t =>
        rename_i vx xr
        cases t with
        | cons r2 t =>
          rename_i vy xr
          cases t
          cases rv with
          | cons q1 t =>
            rename_i ux ur
            cases t with
            | cons q2 t =>
              rename_i uy ur
              cases t
              refine wpAny_matchCases_cons (matchSeq_list_hit pl.isList hfit rfl ?_ rfl rfl)
              refine PySem.W.kun_itemsOf (items := [ux, uy].toArray) (I1.ok.hd hc) pl.isList fun h' hx' => ?_
              have I2 : Inv X pins σ H1 { s1 with heap := h', toks := s1.toks + 1 + 1 } := I1.kept (t' := s1.toks + 1 + 1) fun b o e => hx' b o (Nat.ne_of_lt (Heap.lt_size e)) e
              refine wpAny_matchEach_cons (wpAny_matchPattern_Capture (name := some x) ?_) rfl
              refine wpAny_matchEach_cons (wpAny_matchPattern_Capture (name := some y) ?_) rfl
              refine wpAny_matchEach_nil ?_
              show wpAny (model X.prog X.w) X.A (assignInOrder [fun v => bindName X.env x v, fun v => bindName X.env y v] [ux, uy]) _ _ _
              refine wpAny_assignInOrder_more (wpAny_bindName (store_ok I2 hN hi hx q1 (fun s3 I3 => ?_) fx))
              refine wpAny_assignInOrder_more (wpAny_bindName (store_ok I3 hN hj hy q2 (fun s4 I4 => ?_) fy))
              refine wpAny_assignInOrder_none ?_
              have re2 := (re.set (i := i) (w := .d dx) (v := vx) r1).set (i := j) (w := .d dy) (v := vy) r2
              refine thn (hg.run pins s4 _ H1 (fun b H2 => ∃ G2 env2 st2, GOk Γ G2 H2 st2 ∧ REnv Γ G2 H2 env2 ((σ.set i (some vx)).set j (some vy)) ∧ Post Γ E G2 H2 ((if b = true then b1 env2 else b2 env2) st2) (FlK Γ D)) I4 ?_) fun b s5 ⟨H2, I5, G2, env2, st2, ok2, re3, p2⟩ => ?_
              · refine ⟨G, _, st, ok, re2, p.bnd.imp fun c st2 G2 H2 s2 ok2 p2 => ⟨G2, _, st2, ok2, re2.step s2, p2⟩⟩
              · cases b with
                | true => exact hb1.run pins _ _ _ _ I5 ⟨G2, env2, st2, ok2, re3, p2⟩
                | false => exact els I5 ok2 re3 p2
    · have p : Post Γ E G H1 (b2 env st) (FlK Γ D) := by
        match ds, p, hl with
        | [], p, _ => exact p
        | [_], p, _ => exact p
        | [x, y], p, hl => exact absurd ⟨x, y, rfl⟩ hl
        | _ :: _ :: _ :: _, p, _ => exact p
      have hne : its.toArray.size ≠ 2 := by
        intro e
        apply hl
        have := rl.length
        match ds, this with
        | [x, y], _ => exact ⟨x, y, rfl⟩
        | [], z => simp at z; omega
        | [_], z => simp at z; omega
        | _ :: _ :: _ :: _, z => simp at z; omega
      refine wpAny_matchCases_cons (matchSeq_list_miss pl.isList hfit hne ?_ rfl rfl)
      exact els (I1.tok _) ok re p
end
end Bj

set_option Elab.async false
set_option linter.all false
set_option maxRecDepth 100000
set_option maxHeartbeats 1000000
/-! The mirror layer, part M: what a def's body may let out; the law's own head; a try whose body raises nothing. -/
namespace Bj
open PySem PySem.Spec PyProof.Rows L2
section
variable {P : Program} {w : World} {K : PySem.W.Frag} {mg : Str → Option Value} {base : Heap} {N : List Str} {qual : Str} {scope : Scope} {f : Addr} {cdv : Value} {A : Around} {outer : List Env} {s : Shared} {H : Hp} {E : XK}
theorem tx : Takes (cxOf (L2.CX P w) P w K mg base N qual scope f cdv A outer s H E) (fun cls d _ H => E cls d H) := takes_of rfl rfl rfl rfl
theorem px : Passes (L2.CX P w) (cxOf (L2.CX P w) P w K mg base N qual scope f cdv A outer s H E) E := passes_call tx fun _ _ _ _ h => h
theorem po : PassesOwn (model P w) (cxOf (L2.CX P w) P w K mg base N qual scope f cdv A outer s H E).A (cxOf (L2.CX P w) P w K mg base N qual scope f cdv A outer s H E).env (cxOf (L2.CX P w) P w K mg base N qual scope f cdv A outer s H E).xe := passes_of rfl
end
section
variable {Γ : Gam} {E : XK} {X : Cx}
/-- a try whose body raises nothing -/
@[simp] def mTry0 (b : Env' → M Fl) : Env' → M Fl := fun env => noEx (b env)
theorem s_try0 {x : Str} {c : Value} {body suite : List Stmt} {b₀ : Stmt} {np pos pos' : Pos} {b : Env' → M Fl} (hc : Names X x c)
    (hb : ∀ (pn : List (Addr × Obj)) (xe : Value → Shared → Prop), PassesOwn (model X.prog X.w) X.A X.env xe → PSs (X.tr pn xe) body (tS Γ E0 b)) (hs : X.stack = X.env :: X.outer := by rfl) (hf : X.env.frame = some X.env.locals := by rfl) :
    PS X (.Try body [.ExceptHandler (some (.Name x np)) none (b₀ :: suite) pos'] [] [] pos) (tS Γ E (mTry0 b)) :=
  PSw (ps_try_only (tb := fun _ => tS Γ E0 b) (ts := fun _ _ _ => tNever) (Wout := fun _ _ _ _ => False) hs hf hc takes0 (fun W pn xe _ po => hb pn xe po) fun a oe cls d pn _ _ => pss_never) fun D σ H q => by
    obtain ⟨G, env, st, ok, re, p⟩ := q
    exact ⟨G, env, st, ok, re, noEx_post p⟩
end
/-! ### the law's head -/
def noLists (K : PySem.W.Frag) : Bool := K.all fun p => !(p.2.cls == .type "list")
theorem noLists_look {K : PySem.W.Frag} (h : noLists K = true) {a : Addr} {o : Obj} (e : K.lookup a = some o) : o.cls ≠ .type "list" := by
  induction K with
  | nil => cases e
  | cons p K ih =>
    obtain ⟨b, o'⟩ := p
    unfold noLists at h
    rw [List.all_cons, Bool.and_eq_true] at h
    rw [List.lookup_cons] at e
    cases hb : a == b with
    | true =>
      simp only [hb] at e
      cases e
      intro z
      have h1 := h.1
      dsimp only at h1
      rw [z] at h1
      simp at h1
    | false =>
      simp only [hb] at e
      exact ih h.2 e
def spLaw (K : PySem.W.Frag) : Sp := fun vs H Q _ => ∃ (a : Addr) (ns : List Int), vs = [.ref a] ∧ SqL K H a (ns.map V.int) ∧ ns.length ≤ 63 ∧ ∀ H', Q (.bl true) H'
theorem law_sp {Γ : Gam} {K : PySem.W.Frag} {m : List Wv → M Wv} (hK : noLists K = true) (plain : ∀ ns : List Int, ns.length ≤ 63 → ∃ st, m [.d (.lst (ns.map .int))] [] = .ok (.d (.bl true)) st)
    {vs : List V} {H : Hp} {Q : VK} {E : XK} (h : spLaw K vs H Q E) : spM Γ m vs H Q E := by
  obtain ⟨a, ns, rfl, hS, hl, q⟩ := h
  have hR : Rd H a (.lst (ns.map V.int)) := by
    rcases hS with h | ⟨o, its, n, h1, h2, _⟩
    · exact h
    · exact absurd h2 (noLists_look hK h1)
  obtain ⟨st, e⟩ := plain ns hl
  refine ⟨⟨fun b => b = a, []⟩, [], [.d (.lst (ns.map .int))], ⟨rfl, .nil, fun b h => ?_, fun n b c e _ => by simp at e⟩, .cons (.lst rfl hR (RepL.ofInts ns)) .nil, ?_⟩
  · rcases h with h | h
    · subst h
      rcases hR with h | ⟨o, h⟩ <;> rw [h] <;> simp
    · cases h
  · rw [e]
    intro G' H' s ok v rv
    cases rv
    exact q H'
end Bj

set_option Elab.async false
set_option linter.all false
set_option maxRecDepth 100000
set_option maxHeartbeats 1000000
/-! The mirror layer, part N: comprehensions whose list is a cell (of cells). -/
namespace Bj
open PySem PySem.Spec PyProof.Rows L2
theorem hu64 {k : Nat} {A : Around} (r : Room k A) : A.units + 64 < cLine := r.units
theorem hu65 {k : Nat} {A : Around} (r : Room k A) : A.units + 65 < cLine := by have := r.un; omega
/-- the items made, k of them so far; they may be cells -/
def lcW (t : Wv → Env' → M Env') (tt : Env' → M Bool) (te : Env' → M Wv) (env : Env') : Nat → List Py → M (List Wv)
  | _, [] => ret []
  | k, x :: xs => bnd (t (.d x) env) fun e1 => bnd (tt e1) fun b => if b then (if k < 1000000 then bnd (te e1) fun w => bnd (lcW t tt te env (k + 1) xs) fun ys => ret (w :: ys) else bad) else lcW t tt te env k xs
def newLC (ws : List Wv) : M Wv := fun st => .ok (.r st.length) (st ++ [.lst ws])
def mLcC (vs : List Nat) (it : Env' → M (List Py)) (t : Wv → Env' → M Env') (tt : Env' → M Bool) (te : Env' → M Wv) : Env' → M Wv := fun env => bnd (it env) fun items => bnd (noEx (lcW t tt te (wipeV env vs) 0 items)) newLC
section
variable {Γ : Gam} {E : XK} {X : Cx} {tg : Expr}
structure LcW (G0 : Gh) (H0 : Hp) (D : Addr) (Γ : Gam) (G : Gh) (H : Hp) (st : Store) (acc : List V) (done : List Wv) : Prop where
  step : Step G0 H0 G H
  ok : GOk Γ G H st
  at_ : H D = some (.lst acc)
  nS : ¬ G.S D
  nP : D ∉ G.π
  rep : RepWL Γ G H done acc
theorem LcW.start {G : Gh} {H : Hp} {D : Addr} {st : Store} (ok : GOk Γ G H st) (hD : H D = none) : LcW G H D Γ G (upd H D (.lst [])) st [] [] := by
  have nS : ¬ G.S D := fun h => ok.tr D (.inl h) hD
  have nP : D ∉ G.π := fun h => ok.tr D (.inr h) hD
  exact ⟨other_step .refl hD, (ok.other nS nP).2.2, upd_same, nS, nP, .nil⟩
theorem LcW.go {G0 : Gh} {H0 : Hp} {D : Addr} {G G' : Gh} {H H' : Hp} {st st' : Store} {acc : List V} {done : List Wv} (l : LcW G0 H0 D Γ G H st acc done) (s : Step G H G' H') (ok : GOk Γ G' H' st') : LcW G0 H0 D Γ G' H' st' acc done := by
  have nn : ¬ (G'.S D ∨ D ∈ G'.π) := fun h => by
    rcases s.new D h with h | h | h
    · exact l.nS h
    · exact l.nP h
    · rw [l.at_] at h; cases h
  exact ⟨l.step.trans s, ok, s.frm _ _ l.at_ fun m => absurd m l.nP, fun h => nn (.inl h), fun h => nn (.inr h), s.vals l.rep⟩
theorem LcW.add {G0 : Gh} {H0 : Hp} {D : Addr} {G : Gh} {H : Hp} {st : Store} {acc : List V} {done : List Wv} {d : Wv} {x : V} (l : LcW G0 H0 D Γ G H st acc done) (hD : H0 D = none) (r : RepW Γ G H d x) :
    LcW G0 H0 D Γ G (upd H D (.lst (acc ++ [x]))) st (acc ++ [x]) (done ++ [d]) := by
  obtain ⟨rv, _, ok⟩ := l.ok.other (o := .lst (acc ++ [x])) l.nS l.nP
  exact ⟨other_step l.step hD, ok, upd_same, l.nS, l.nP, Paired.imp (l.rep.snoc r) fun _ _ q => rv q⟩
theorem LcW.end {G0 : Gh} {H0 : Hp} {D : Addr} {G : Gh} {H : Hp} {st : Store} {acc : List V} {done : List Wv} (l : LcW G0 H0 D Γ G H st acc done) (hD : H0 D = none) :
    Step G0 H0 ⟨G.S, G.π ++ [D]⟩ H ∧ GOk Γ ⟨G.S, G.π ++ [D]⟩ H (st ++ [.lst done]) ∧ RepW Γ ⟨G.S, G.π ++ [D]⟩ H (.r st.length) (.ref D) := by
  have s2 : Step G H ⟨G.S, G.π ++ [D]⟩ H ∨ True := .inr trivial
  have rv : ∀ {w v}, RepW Γ G H w v → RepW Γ ⟨G.S, G.π ++ [D]⟩ H w v := fun {w v} r => by
    cases w with
    | d x => exact r
    | r n =>
      obtain ⟨a, e, q⟩ := r
      exact ⟨a, by show (G.π ++ [D])[n]? = _; rw [List.getElem?_append_left (List.getElem?_eq_some_iff.mp e).1]; exact e, q⟩
  refine ⟨⟨?_, l.step.sub, l.step.frm, fun a h => ?_⟩, ⟨by simp [l.ok.len], ?_, fun a h => ?_, fun n a c e1 e2 => ?_⟩, D, ?_, rfl⟩
  · obtain ⟨t, e⟩ := l.step.pre
    exact ⟨t ++ [D], by show G.π ++ [D] = _; rw [e, List.append_assoc]⟩
  · rcases h with h | h
    · exact l.step.new a (.inl h)
    · rcases List.mem_append.mp h with h | h
      · exact l.step.new a (.inr h)
      · have : a = D := by simpa using h
        subst this; exact .inr (.inr hD)
  · refine List.nodup_append.mpr ⟨l.ok.nd, by simp, fun x hx y hy => ?_⟩
    have : y = D := by simpa using hy
    subst this
    exact fun e => l.nP (e ▸ hx)
  · rcases h with h | h
    · exact l.ok.tr a (.inl h)
    · rcases List.mem_append.mp h with h | h
      · exact l.ok.tr a (.inr h)
      · have : a = D := by simpa using h
        subst this; rw [l.at_]; simp
  · have hl := l.ok.len
    by_cases hm : n < st.length
    · have e1 : G.π[n]? = some a := by
        have : (G.π ++ [D])[n]? = some a := e1
        rw [List.getElem?_append_left (by omega)] at this
        exact this
      have e2 : st[n]? = some c := by
        rw [List.getElem?_append_left hm] at e2
        exact e2
      have q := l.ok.cells n a c e1 e2
      cases c with
      | dead => trivial
      | lst ws =>
        obtain ⟨h1, xs, h2, h3⟩ := q
        exact ⟨h1, xs, h2, Paired.imp h3 fun _ _ r => rv r⟩
      | obj c fs =>
        obtain ⟨h1, dx, gs, h2, h3⟩ := q
        exact ⟨h1, dx, gs, h2, Paired.imp h3 fun _ _ r => ⟨r.1, rv r.2⟩⟩
    · have hm2 : n = st.length := by
        have := (List.getElem?_eq_some_iff.mp e2).1
        rw [List.length_append] at this
        simp at this
        omega
      subst hm2
      have e1 : a = D := by
        have : (G.π ++ [D])[st.length]? = some a := e1
        rw [← hl, List.getElem?_append_right (Nat.le_refl _)] at this
        simpa using this.symm
      have e2 : c = .lst done := by
        rw [List.getElem?_append_right (Nat.le_refl _)] at e2
        simpa using e2.symm
      subst e1 e2
      exact ⟨l.nS, acc, l.at_, Paired.imp l.rep fun _ _ r => rv r⟩
  · show (G.π ++ [D])[st.length]? = some D
    rw [← l.ok.len, List.getElem?_append_right (Nat.le_refl _)]
    simp
theorem noEx_inv0 {α β : Type} {G : Gh} {H : Hp} {st : Store} {m : M α} {f : α → M β} {K : β → Store → Gh → Hp → Prop} (p : Post Γ E G H (bnd (noEx m) f st) K) : Post Γ E0 G H (m st) fun a st' _ _ => Post Γ E G H (f a st') K := by
  unfold bnd noEx at p
  cases e : m st with
  | ok a st' => simp only [e] at p; exact fun G' H' s ok => p
  | ex x st' => simp only [e] at p; exact p.elim
  | bad => simp only [e] at p; exact p.elim
theorem tLcC_of {vs : List Nat} {it : Env' → M (List Py)} {t : Wv → Env' → M Env'} {tt : Env' → M Bool} {te : Env' → M Wv} {σ : L2.St} {H : Hp} {Q : VK} (q : tM Γ E (mLcC vs it t tt te) σ H Q) :
    tLc (iM Γ E it) (gM Γ E0 vs t) (tB' Γ E0 tt) (tM Γ E0 te) vs σ H Q := by
  refine At.bnd q fun items st0 G0 H0 ok0 ⟨env0, re0, p0⟩ J wk => ?_
  intro D hD
  have p0 := noEx_inv0 p0
  refine ⟨fun i m H => m = items.length - i ∧ i ≤ items.length ∧ ∃ G st acc done k, LcW G0 H0 D Γ G H st acc done ∧ done.length ≤ k ∧ REnv Γ G H (wipeV env0 vs) (wipe σ vs) ∧
      Post Γ E0 G0 H0 (bnd (lcW t tt te (wipeV env0 vs) k (items.drop i)) (fun ys => ret (done ++ ys)) st) (fun ys st' _ _ => Post Γ E G0 H0 (newLC ys st') fun z st' G' H' => ∀ v, RepW Γ G' H' z v → Q v H'),
    ⟨items.length, rfl, Nat.zero_le _, G0, st0, [], [], 0, LcW.start ok0 hD, Nat.le_refl _, ?_, ?_⟩, ?_⟩
  · have nS : ¬ G0.S D := fun h => ok0.tr D (.inl h) hD
    have nP : D ∉ G0.π := fun h => ok0.tr D (.inr h) hD
    exact (re0.wipe vs).other ok0 nS nP
  · have e : bnd (lcW t tt te (wipeV env0 vs) 0 (items.drop 0)) (fun ys => ret ([] ++ ys)) = lcW t tt te (wipeV env0 vs) 0 items := by
      funext st
      unfold bnd
      rw [List.drop_zero]
      cases lcW t tt te (wipeV env0 vs) 0 items st <;> rfl
    rw [e]
    exact p0
  rintro i m H ⟨rfl, hi, G, st, acc, done, k, l, hk, re, p⟩
  by_cases hlt : i < items.length
  · refine .inr ⟨wk.go i G H l.step.keep hlt, fun H' => ∃ G st acc done k, LcW G0 H0 D Γ G H' st acc done ∧ done.length ≤ k ∧ REnv Γ G H' (wipeV env0 vs) (wipe σ vs) ∧
      Post Γ E0 G0 H0 (bnd (lcW t tt te (wipeV env0 vs) k (items.drop (i + 1))) (fun ys => ret (done ++ ys)) st) (fun ys st' _ _ => Post Γ E G0 H0 (newLC ys st') fun z st' G' H' => ∀ v, RepW Γ G' H' z v → Q v H'),
      fun H' q => ⟨items.length - (i + 1), by omega, rfl, hlt, q⟩, fun x H1 y => ?_⟩
    obtain ⟨G1, d, s1, ok1, hd, rd⟩ := wk.yld i G H st x H1 l.step.keep l.ok hlt y
    have ed : items.drop i = d :: items.drop (i + 1) := by
      obtain ⟨hl, e⟩ := List.getElem?_eq_some_iff.mp hd
      rw [List.drop_eq_getElem_cons hl, e]
    rw [ed] at p
    have l1 := l.go s1 ok1
    have re1 := re.step s1
    unfold lcW at p
    rw [bnd_assoc] at p
    refine ⟨G1, _, st, .d d, ok1, re1, rd, (p.base l1.step).imp fun e st2 G2 H2 s2 ok2 p σ2 re2 on => ?_⟩
    show wipe σ2 vs = wipe σ vs ∧ _
    refine ⟨on.wipe.trans wipe_only.wipe, ?_⟩
    rw [bnd_assoc] at p
    have l2 := l1.go s2 ok2
    refine ⟨G2, e, st2, ok2, re2, (p.base l2.step).imp fun b st3 G3 H3 s3 ok3 p => ?_⟩
    have l3 := l2.go s3 ok3
    cases b with
    | false => exact ⟨_, _, _, _, _, l3, hk, (re1.step s2).step s3, p⟩
    | true =>
      simp only [if_true] at p ⊢
      by_cases hk2 : k < 1000000
      · rw [if_pos hk2, bnd_assoc] at p
        refine ⟨G3, e, st3, ok3, re2.step s3, (p.base l3.step).imp fun w st4 G4 H4 s4 ok4 p v rv => ?_⟩
        rw [bnd_assoc] at p
        have l4 := l3.go s4 ok4
        have hacc : acc.length = done.length := (Paired.length l4.rep).symm
        refine ⟨acc, l4.at_, by rw [hacc]; exact sz' (Nat.lt_of_le_of_lt hk hk2), ?_⟩
        have l5 := l4.add hD rv
        refine ⟨_, _, _, _, k + 1, l5, by rw [List.length_append]; simp; exact hk, (((re1.step s2).step s3).step s4).other ok4 l4.nS l4.nP, ?_⟩
        have e2 : (bnd (lcW t tt te (wipeV env0 vs) (k + 1) (items.drop (i + 1))) fun ys => bnd (ret (w :: ys)) fun ys => ret (done ++ ys)) = bnd (lcW t tt te (wipeV env0 vs) (k + 1) (items.drop (i + 1))) fun ys => ret (done ++ [w] ++ ys) := by
          congr 1
          funext ys
          rw [bnd_ret, List.append_assoc]
          rfl
        rw [e2] at p
        exact p
      · rw [if_neg hk2] at p
        exact p.elim
  · have e : i = items.length := by omega
    subst e
    rw [List.drop_length] at p
    refine .inl ⟨wk.stop G H l.step.keep, ?_⟩
    have p : Post Γ E0 G0 H0 (ret (done ++ []) st) _ := p
    rw [List.append_nil] at p
    have p2 : Post Γ E G0 H0 (newLC done st) fun z st' G' H' => ∀ v, RepW Γ G' H' z v → Q v H' := p G H l.step l.ok
    obtain ⟨s3, ok3, r3⟩ := l.end hD
    exact p2 _ _ s3 ok3 _ r3
theorem e_lcC {elt iter : Expr} {ifs : List Expr} {scope : Scope} {own : List (Str × Nat)} {pos : Pos} {it : Env' → M (List Py)} {t : Wv → Env' → M Env'} {tt : Env' → M Bool} {te : Env' → M Wv} (hN : X.N.Nodup) (ok : BlkOk X.N X.env.scope scope own) (hi : PI X tg iter (iM Γ E it))
    (hg : ∀ (s : Shared) (H : Hp) (C : Addr) (cl : List (Str × Addr)) (fp : List Addr), PG (X.blk s H scope (compEnvC scope cl C X.env) fp) tg (gM Γ E0 (own.map (·.2)) t)) (ht : ∀ (s : Shared) (H : Hp) (C : Addr) (cl : List (Str × Addr)) (fp : List Addr), PTs (X.blk s H scope (compEnvC scope cl C X.env) fp) ifs (tB' Γ E0 tt))
    (he : ∀ (s : Shared) (H : Hp) (C : Addr) (cl : List (Str × Addr)) (fp : List Addr), PE (X.blk s H scope (compEnvC scope cl C X.env) fp) elt (tM Γ E0 te)) (hc : X.calm = true := by rfl) (hs : ∀ x, foldedSetIterable iter X.env x = pure x := by intro _; rfl) :
    PE X (.ListComp elt [⟨tg, iter, ifs, 0⟩] scope pos) (tM Γ E (mLcC (own.map (·.2)) it t tt te)) := PEw (pe_lc hc hN hi ok hg ht he hs) fun σ H Q q => tLcC_of q
theorem s_setLcC {i : Nat} {y : Str} {py : Pos} {elt iter : Expr} {ifs : List Expr} {scope : Scope} {own : List (Str × Nat)} {pos spos : Pos} {it : Env' → M (List Py)} {t : Wv → Env' → M Env'} {tt : Env' → M Bool} {te : Env' → M Wv} (hN : X.N.Nodup) (ok : BlkOk X.N X.env.scope scope own) (hi : PI X tg iter (iM Γ E it))
    (hg : ∀ (s : Shared) (H : Hp) (C : Addr) (cl : List (Str × Addr)) (fp : List Addr), PG (X.blk s H scope (compEnvC scope cl C X.env) fp) tg (gM Γ E0 (own.map (·.2)) t)) (ht : ∀ (s : Shared) (H : Hp) (C : Addr) (cl : List (Str × Addr)) (fp : List Addr), PTs (X.blk s H scope (compEnvC scope cl C X.env) fp) ifs (tB' Γ E0 tt))
    (he : ∀ (s : Shared) (H : Hp) (C : Addr) (cl : List (Str × Addr)) (fp : List Addr), PE (X.blk s H scope (compEnvC scope cl C X.env) fp) elt (tM Γ E0 te))
    (hsw : swapsWith (.ListComp elt [⟨tg, iter, ifs, 0⟩] scope pos) (some (.Name y py)) spos.line X.env = pure true) (hy : X.N[i]? = some y := by rfl) (hyl : X.env.scope.names.lookup y = some .local := by rfl) (hc : X.calm = true := by rfl)
    (hs : ∀ x, foldedSetIterable iter X.env x = pure x := by intro _; rfl) : PS X (.Assign [.Name y py] (.ListComp elt [⟨tg, iter, ifs, 0⟩] scope pos) spos) (tS Γ E (mAsg (mLcC (own.map (·.2)) it t tt te) (mSet i))) :=
  PSw (ps_setLc hc hN hy hyl hsw hi ok hg ht he hs) fun D σ H q => by
    refine tLcC_of (At.bnd q fun w st G H1 ok ⟨env, re, p⟩ v rv => ?_)
    exact p.now ok _ (re.set rv)
end
end Bj

set_option Elab.async false
set_option linter.all false
set_option maxRecDepth 100000
set_option maxHeartbeats 1000000
/-! The mirror layer, part O: isinstance, the answers of the text. -/
namespace Bj
open PySem PySem.Spec PyProof.Rows L2
section
variable {Γ : Gam} {K : PySem.W.Frag}
theorem isf_nil {u : Ty} (h : ∀ n, n ∈ ["NoneType", "bool", "int", "str", "tuple", "list"] → PySem.W.kitOne K (.type n) (tyV' Γ u) = some (subTy (.b n) u)) : IsF Γ K [] u := ⟨h, fun i h => nomatch h⟩
theorem kb {n T : String} (hn : n ∈ ["NoneType", "bool", "int", "str", "tuple", "list"]) (hT : T ∈ ["bool", "int", "str", "tuple", "list"]) : PySem.W.kitOne K (.type n) (.type T) = some (subTy (.b n) (.b T)) := by
  have key : ∀ n ∈ ["NoneType", "bool", "int", "str", "tuple", "list"], ∀ T ∈ ["bool", "int", "str", "tuple", "list"], (if ((Value.type n) == (Value.type T)) = true then some true else if PySem.W.kitMeta T = true then (fastBuiltinMro n).map (·.contains (Value.type T)) else none) = some (subTy (.b n) (.b T)) := by decide +kernel
  exact key n hn T hT
theorem isf_b {T : String} (hT : T ∈ ["bool", "int", "str", "tuple", "list"]) : IsF Γ K [] (.b T) := isf_nil fun n hn => kb hn hT
/-- own classes against a built-in one -/
theorem isf_bc {T : String} {cs : List Nat} (hT : T ∈ ["bool", "int", "str", "tuple", "list"]) (h : ∀ i ∈ cs, PySem.W.mroIn K (Γ.cls i) (.type T) = some false) : IsF Γ K cs (.b T) := ⟨fun n hn => kb hn hT, fun i hi => by
  have hm : PySem.W.kitMeta T = true := by
    have key : ∀ T ∈ ["bool", "int", "str", "tuple", "list"], PySem.W.kitMeta T = true := by decide +kernel
    exact key T hT
  show (if (Value.ref (Γ.cls i) == Value.type T) = true then some true else if PySem.W.kitMeta T = true then PySem.W.mroIn K (Γ.cls i) (.type T) else none) = _
  rw [if_neg (by simp), if_pos hm, h i hi]
  have : subTy (.c i) (.b T) = false := by simp [subTy]
  rw [this]⟩
/-- what the text says of the own class c as a second argument of isinstance -/
structure IsC (K : PySem.W.Frag) (C : Addr) : Prop where
  cl : PySem.W.isClsIn K C = true
  ty : PySem.W.typeIn K (.ref C) = some (.type "type")
theorem kc {n : String} {C : Addr} (hn : n ∈ ["NoneType", "bool", "int", "str", "tuple", "list"]) (h : IsC K C) : PySem.W.kitOne K (.type n) (.ref C) = some false := by
  have key : ∀ n ∈ ["NoneType", "bool", "int", "str", "tuple", "list"], ∃ l, fastBuiltinMro n = some l ∧ (l.all fun v => match v with | .type _ => true | _ => false) = true := by
    intro n hn
    simp only [List.mem_cons, List.not_mem_nil, or_false] at hn
    rcases hn with rfl | rfl | rfl | rfl | rfl | rfl <;> exact ⟨_, rfl, by decide +kernel⟩
  obtain ⟨l, e, hl⟩ := key n hn
  show (if (Value.type n == Value.ref C) = true then some true else if ((PySem.W.clsIn K C).isSome && PySem.W.typeIn K (.ref C) == some (.type "type")) = true then (fastBuiltinMro n).map (·.contains (.ref C)) else none) = _
  have h1 : (PySem.W.clsIn K C).isSome = true := h.cl
  rw [if_neg (by simp), if_pos (by rw [h1, h.ty]; simp), e]
  show some (l.contains (Value.ref C)) = some false
  congr 1
  cases hc : l.contains (Value.ref C) with
  | false => rfl
  | true =>
    have hm : Value.ref C ∈ l := by simpa using hc
    have := List.all_eq_true.mp hl _ hm
    cases this
theorem isf_c {i : Nat} (h : IsC K (Γ.cls i)) : IsF Γ K [i] (.c i) := ⟨fun n hn => by
  have := kc (K := K) hn h
  have e : subTy (.b n) (.c i) = false := by simp [subTy]
  rw [e]
  exact this, fun j hj => by
  have : j = i := by simpa using hj
  subst this
  show (if (Value.ref (Γ.cls j) == Value.ref (Γ.cls j)) = true then some true else _) = _
  rw [if_pos (by simp)]
  simp [subTy]⟩
end
end Bj

set_option Elab.async false
set_option linter.all false
set_option maxRecDepth 100000
set_option maxHeartbeats 1000000
/-! The mirror layer, part P: mirrors are run. -/
namespace Bj
open PySem L2
@[simp] theorem bnd_ap {α β : Type} (m : M α) (f : α → M β) (st : Store) : bnd m f st = match m st with
  | .ok a st' => f a st'
  | .ex x st' => .ex x st'
  | .bad => .bad := rfl
@[simp] theorem noEx_ap {α : Type} (m : M α) (st : Store) : noEx m st = match m st with
  | .ok a st' => .ok a st'
  | _ => .bad := rfl
@[simp] theorem bad_ap {α : Type} (st : Store) : (bad : M α) st = .bad := rfl
/-! operations by the shapes of their operands -/
section
variable (i j : Int) (s u : Str) (l m : List Py) (n : Nat) (w v : Wv)
@[simp] theorem oAdd_int : oAdd (.d (.int i)) (.d (.int j)) = ret (.d (.int (i + j))) := rfl
@[simp] theorem oAdd_str : oAdd (.d (.str s)) (.d (.str u)) = if s.length + u.length ≤ 1000000 then ret (.d (.str (s ++ u))) else bad := rfl
@[simp] theorem oAdd_tup : oAdd (.d (.tup l)) (.d (.tup m)) = if l.length + m.length ≤ 1000000 then ret (.d (.tup (l ++ m))) else bad := rfl
@[simp] theorem oAdd_lst : oAdd (.d (.lst l)) (.d (.lst m)) = if l.length + m.length ≤ 1000000 then ret (.d (.lst (l ++ m))) else bad := rfl
@[simp] theorem oSub_int : oSub (.d (.int i)) (.d (.int j)) = ret (.d (.int (i - j))) := rfl
@[simp] theorem oMul_int : oMul (.d (.int i)) (.d (.int j)) = if -big < i ∧ i < big ∧ -big < j ∧ j < big then ret (.d (.int (i * j))) else bad := rfl
@[simp] theorem oMul_lst : oMul (.d (.lst l)) (.d (.int j)) = if -1000000 ≤ j ∧ j ≤ 1000000 ∧ l.length * j.toNat ≤ 1000000 then ret (.d (.lst (List.replicate j.toNat l).flatten)) else bad := rfl
@[simp] theorem oDiv_int : oDiv (.d (.int i)) (.d (.int j)) = if 0 < j ∧ j < big then ret (.d (.int (i / j))) else bad := rfl
@[simp] theorem oMod_int : oMod (.d (.int i)) (.d (.int j)) = if 0 < j then ret (.d (.int (i % j))) else bad := rfl
theorem oPow_int : oPow (.d (.int i)) (.d (.int j)) = if 0 ≤ j ∧ j ≤ 1000 ∧ -18446744073709551616 < i ∧ i < 18446744073709551616 then ret (.d (.int (i ^ j.toNat))) else bad := rfl
@[simp] theorem oCmp_int (f : Int → Int → Bool) : oCmp f (.d (.int i)) (.d (.int j)) = ret (.d (.bl (f i j))) := rfl
@[simp] theorem oMax2_int : oMax2 (.d (.int i)) (.d (.int j)) = ret (.d (.int (if j > i then j else i))) := rfl
@[simp] theorem oMin2_int : oMin2 (.d (.int i)) (.d (.int j)) = ret (.d (.int (if j < i then j else i))) := rfl
@[simp] theorem oStr_int : oStr (.d (.int i)) = if -big < i ∧ i < big then ret (.d (.str (Str.ofString (toString i)))) else bad := rfl
@[simp] theorem oInt_int : oInt (.d (.int i)) = ret (.d (.int i)) := rfl
@[simp] theorem oInt_str : oInt (.d (.str s)) = if s.length ≤ 640 then bnd (opt (PySem.intText? s)) (fun n => ret (.d (.int n))) else bad := rfl
@[simp] theorem seqD_tup : seqD (.d (.tup l)) = ret l := rfl
@[simp] theorem seqD_lst : seqD (.d (.lst l)) = ret l := rfl
@[simp] theorem seqD_r : seqD (.r n) = lstD (.r n) := rfl
@[simp] theorem oLen_str : oLen (.d (.str s)) = if s.length ≤ 1000000 then ret (.d (.int s.length)) else bad := rfl
@[simp] theorem oLen_tup : oLen (.d (.tup l)) = ret (.d (.int l.length)) := rfl
@[simp] theorem oLen_lst : oLen (.d (.lst l)) = ret (.d (.int l.length)) := rfl
@[simp] theorem oLen_r : oLen (.r n) = bnd (lstD (.r n)) fun l => ret (.d (.int l.length)) := rfl
@[simp] theorem oIx_str : oIx (.d (.str s)) (.d (.int i)) = if s.length ≤ 1000000 then bnd (opt (atI s.cps.toList i)) (fun c => ret (.d (.str ⟨#[c]⟩))) else bad := rfl
@[simp] theorem oIx_lst : oIx (.d (.lst l)) (.d (.int i)) = bnd (opt (atI l i)) fun x => ret (.d x) := rfl
@[simp] theorem oIx_tup : oIx (.d (.tup l)) (.d (.int i)) = bnd (opt (atI l i)) fun x => ret (.d x) := rfl
@[simp] theorem oIx_r (st : Store) : oIx (.r n) (.d (.int i)) st = match st[n]? with
  | some (.lst ws) => bnd (opt (atI ws i)) ret st
  | _ => .bad := rfl
@[simp] theorem f1_ap (o : Wv → M Wv) : f1 o [w] = o w := rfl
@[simp] theorem f2_ap (o : Wv → Wv → M Wv) : f2 o [w, v] = o w v := rfl
@[simp] theorem mTNil_ap (env : Env') : mTNil [] env = ret env := rfl
@[simp] theorem mTCons_ap (t : Wv → Env' → M Env') (r : List Wv → Env' → M Env') (ws : List Wv) (env : Env') : mTCons t r (w :: ws) env = bnd (t w env) fun e => r ws e := rfl
@[simp] theorem objW_d (c : Nat) (fs : List (Str × Py)) : objW (.d (.obj c fs)) = ret (c, fs.map fun p => (p.1, .d p.2)) := rfl
@[simp] theorem objW_r (st : Store) : objW (.r n) st = match st[n]? with
  | some (.obj c fs) => .ok (c, fs) st
  | _ => .bad := rfl
@[simp] theorem frz1_d (x : Py) : frz1 (.d x) = ret x := rfl
@[simp] theorem frz2_d (x : Py) : frz2 (.d x) = ret x := rfl
@[simp] theorem oSetL_r (st : Store) : oSetL (.r n) (.d (.int i)) v st = match st[n]? with
  | some (.lst ws) => match ixN ws.length i with
    | some j => .ok () (st.set n (.lst (ws.set j v)))
    | none => .bad
  | _ => .bad := by
  unfold oSetL cellL setL
  simp only [intD, bnd_ret]
  cases h : st[n]? with
  | none => simp [bnd, h]
  | some c =>
    cases c with
    | lst ws =>
      cases h2 : ixN ws.length i with
      | none => simp [bnd, h, h2, opt]
      | some j => simp [bnd, h, h2, opt]
    | _ => simp [bnd, h]
theorem oPow_3 (h : -18446744073709551616 < i ∧ i < 18446744073709551616) : oPow (.d (.int i)) (.d (.int 3)) = ret (.d (.int (i ^ 3))) := by
  rw [oPow_int, if_pos ⟨by decide, by decide, h.1, h.2⟩]
  rfl
theorem oPow_10 (k : Nat) (h : k ≤ 1000) : oPow (.d (.int 10)) (.d (.int k)) = ret (.d (.int (10 ^ k))) := by
  rw [oPow_int, if_pos ⟨by omega, by omega, by decide, by decide⟩, Int.toNat_natCast]
@[simp] theorem oPow_10_18 : oPow (.d (.int 10)) (.d (.int 18)) = ret (.d (.int 1000000000000000000)) := (oPow_10 18 (by decide)).trans (by congr 3 <;> decide)
end
@[simp] theorem if_ap {α : Type} {c : Prop} [Decidable c] (m n : M α) (st : Store) : (if c then m else n) st = if c then m st else n st := by split <;> rfl

/-! ### loops over a list -/
section
variable {t : Wv → Env' → M Env'} {tt : Env' → M Bool} {te : Env' → M Wv} {env : Env'}
/-- a comprehension without side effects: the items kept, what is made of them -/
theorem lcL_pure {st : Store} (keep : Py → Bool) (g : Py → Py) : ∀ (l : List Py) (k : Nat), k + l.length ≤ 1000000 →
    (∀ x ∈ l, ∃ e1, t (.d x) env st = .ok e1 st ∧ tt e1 st = .ok (keep x) st ∧ (keep x = true → te e1 st = .ok (.d (g x)) st)) → lcL t tt te env k l st = .ok ((l.filter keep).map g) st
  | [], _, _, _ => rfl
  | x :: l, k, hk, h => by
    obtain ⟨e1, h1, h2, h3⟩ := h x (List.mem_cons_self ..)
    have hk' : k + l.length + 1 ≤ 1000000 := by simpa [Nat.add_assoc] using hk
    unfold lcL
    cases hx : keep x with
    | true =>
      have ih := lcL_pure keep g l (k + 1) (by omega) fun y hy => h y (List.mem_cons_of_mem _ hy)
      have h3' := h3 hx
      rw [hx] at h2
      have hlt : k < 1000000 := by omega
      simp [h1, h2, h3', ih, hx, hlt]
    | false =>
      have ih := lcL_pure keep g l k (by omega) fun y hy => h y (List.mem_cons_of_mem _ hy)
      rw [hx] at h2
      simp [h1, h2, ih, hx]
/-- .. without a test -/
theorem lcL_map {st : Store} (g : Py → Py) (l : List Py) (k : Nat) (hk : k + l.length ≤ 1000000)
    (h : ∀ x ∈ l, ∃ e1, t (.d x) env st = .ok e1 st ∧ tt e1 st = .ok true st ∧ te e1 st = .ok (.d (g x)) st) : lcL t tt te env k l st = .ok (l.map g) st := by
  have := lcL_pure (fun _ => true) g l k hk fun x hx => by
    obtain ⟨e1, h1, h2, h3⟩ := h x hx
    exact ⟨e1, h1, h2, fun _ => h3⟩
  rw [List.filter_eq_self.mpr (by intros; rfl)] at this
  exact this
/-- items told by l -/
theorem lcL_of {α : Type} {st : Store} (f g : α → Py) (l : List α) (k : Nat) (hk : k + l.length ≤ 1000000)
    (h : ∀ x ∈ l, ∃ e1, t (.d (f x)) env st = .ok e1 st ∧ tt e1 st = .ok true st ∧ te e1 st = .ok (.d (g x)) st) : lcL t tt te env k (l.map f) st = .ok (l.map g) st := by
  induction l generalizing k with
  | nil => rfl
  | cons x l ih =>
    obtain ⟨e1, h1, h2, h3⟩ := h x (List.mem_cons_self ..)
    have hk' : k + l.length + 1 ≤ 1000000 := by simpa [Nat.add_assoc] using hk
    have ih' := ih (k + 1) (by omega) fun y hy => h y (List.mem_cons_of_mem _ hy)
    have hlt : k < 1000000 := by omega
    rw [List.map_cons, List.map_cons]
    unfold lcL
    simp [h1, h2, h3, ih', hlt]
/-- with side effects, by what holds of the store -/
theorem lcL_inv (I : Store → Prop) (R : Py → Py → Prop) : ∀ (l : List Py) (k : Nat) (st : Store), k + l.length ≤ 1000000 → I st →
    (∀ x ∈ l, ∀ st, I st → ∃ e1 y st', t (.d x) env st = .ok e1 st ∧ tt e1 st = .ok true st ∧ te e1 st = .ok (.d y) st' ∧ I st' ∧ R x y) → ∃ ys st', lcL t tt te env k l st = .ok ys st' ∧ I st' ∧ Paired R l ys
  | [], _, st, _, hi, _ => ⟨[], st, rfl, hi, .nil⟩
  | x :: l, k, st, hk, hi, h => by
    obtain ⟨e1, y, st1, h1, h2, h3, hi1, hR⟩ := h x (List.mem_cons_self ..) st hi
    have hk' : k + l.length + 1 ≤ 1000000 := by simpa [Nat.add_assoc] using hk
    obtain ⟨ys, st2, h4, hi2, hp⟩ := lcL_inv I R l (k + 1) st1 (by omega) hi1 fun z hz => h z (List.mem_cons_of_mem _ hz)
    have hlt : k < 1000000 := by omega
    refine ⟨y :: ys, st2, ?_, hi2, .cons hR hp⟩
    unfold lcL
    simp [h1, h2, h3, h4, hlt]
/-- for: the slots and the store by an invariant; the body always goes on -/
theorem forL_inv {b : Env' → M Fl} (I : List Py → Env' → Store → Prop) : ∀ (l : List Py) (env : Env') (st : Store), I l env st →
    (∀ x l env st, I (x :: l) env st → ∃ e1 e2 st1 st2, t (.d x) env st = .ok e1 st1 ∧ (b e1 st1 = .ok (.nx e2) st2 ∨ b e1 st1 = .ok (.ct e2) st2) ∧ I l e2 st2) →
    ∃ e2 st2, forL t b l env st = .ok (.nx e2) st2 ∧ I [] e2 st2
  | [], env, st, hi, _ => ⟨env, st, rfl, hi⟩
  | x :: l, env, st, hi, h => by
    obtain ⟨e1, e2, st1, st2, h1, h2, hi2⟩ := h x l env st hi
    obtain ⟨e3, st3, h3, hi3⟩ := forL_inv I l e2 st2 hi2 h
    refine ⟨e3, st3, ?_, hi3⟩
    unfold forL
    rcases h2 with h2 | h2 <;> simp [h1, h2, h3]
end
theorem noEx_ok {α : Type} {m : M α} {st st' : Store} {a : α} (h : m st = .ok a st') : noEx m st = .ok a st' := by unfold noEx; rw [h]
theorem wrapP_ok {m : List Wv → M Wv} {ws : List Wv} {st st' : Store} {x : Py} (h : m ws [] = .ok (.d x) st') (hd : ∃ ds, allD ws = some ds) : wrapP m ws st = .ok (.d x) st := by
  obtain ⟨ds, e⟩ := hd
  unfold wrapP
  rw [e]
  simp only [h]
end Bj

set_option Elab.async false
set_option linter.all false
set_option maxRecDepth 100000
set_option maxHeartbeats 1000000
/-! The mirror layer, part Q: plain facts on data and on the texts of numbers. -/
namespace Bj
open PySem L2 TL
mutual
theorem eqP_refl : ∀ x : Py, eqP x x = true
  | .non => rfl
  | .bl b => by simp [eqP]
  | .int i => by simp [eqP]
  | .str s => by simp [eqP]
  | .tup l => by simp [eqP, eqPs_refl l]
  | .lst l => by simp [eqP, eqPs_refl l]
  | .obj c fs => by simp [eqP, eqFs_refl fs]
theorem eqPs_refl : ∀ x : List Py, eqPs x x = true
  | [] => rfl
  | x :: xs => by simp [eqPs, eqP_refl x, eqPs_refl xs]
theorem eqFs_refl : ∀ x : List (Str × Py), eqFs x x = true
  | [] => rfl
  | (_, x) :: xs => by simp [eqFs, eqP_refl x, eqFs_refl xs]
end
theorem eqPs_ints : ∀ (l m : List Int), eqPs (l.map .int) (m.map .int) = decide (l = m)
  | [], [] => rfl
  | [], _ :: _ => rfl
  | _ :: _, [] => rfl
  | x :: l, y :: m => by
    simp only [List.map_cons, eqPs, eqP, eqPs_ints l m]
    by_cases h : x = y <;> simp [h]
theorem okDs_of {k : Nat} : ∀ {l : List Py}, (∀ x ∈ l, okD k x = true) → okDs k l = true
  | [], _ => rfl
  | x :: l, h => by
    simp only [okDs, Bool.and_eq_true]
    exact ⟨h x (List.mem_cons_self ..), okDs_of fun y hy => h y (List.mem_cons_of_mem _ hy)⟩
@[simp] theorem okDs_ints (k : Nat) (l : List Int) : okDs k (l.map .int) = true := okDs_of fun x hx => by
  obtain ⟨i, _, rfl⟩ := List.mem_map.mp hx
  cases k <;> rfl
@[simp] theorem okD_int (k : Nat) (i : Int) : okD k (.int i) = true := by cases k <;> rfl
@[simp] theorem okD_non (k : Nat) : okD k .non = true := by cases k <;> rfl
@[simp] theorem okD_bl (k : Nat) (b : Bool) : okD k (.bl b) = true := by cases k <;> rfl
@[simp] theorem okD_str (k : Nat) (s : Str) : okD k (.str s) = PyData.strOk s := by cases k <;> rfl
@[simp] theorem okD_lst (k : Nat) (l : List Py) : okD (k + 1) (.lst l) = okDs k l := rfl
@[simp] theorem okD_tup (k : Nat) (l : List Py) : okD (k + 1) (.tup l) = okDs k l := rfl
@[simp] theorem okDs_nil (k : Nat) : okDs k [] = true := by cases k <;> rfl
@[simp] theorem okDs_cons (k : Nat) (x : Py) (l : List Py) : okDs k (x :: l) = (okD k x && okDs k l) := by cases k <;> rfl
theorem oEq_ok {x y : Py} (hx : okD 20 x = true) (hy : okD 20 y = true) (st : Store) : oEq (.d x) (.d y) st = .ok (.d (.bl (eqP x y))) st := by
  unfold oEq
  simp [hx, hy]
theorem oNe_ok {x y : Py} (hx : okD 20 x = true) (hy : okD 20 y = true) (st : Store) : oNe (.d x) (.d y) st = .ok (.d (.bl (!eqP x y))) st := by
  unfold oNe
  simp [hx, hy]
@[simp] theorem oEq_int (i j : Int) (st : Store) : oEq (.d (.int i)) (.d (.int j)) st = .ok (.d (.bl (decide (i = j)))) st := by
  rw [oEq_ok rfl rfl]
  by_cases h : i = j <;> simp [eqP, h]
@[simp] theorem oNe_int (i j : Int) (st : Store) : oNe (.d (.int i)) (.d (.int j)) st = .ok (.d (.bl (!decide (i = j)))) st := by
  rw [oNe_ok rfl rfl]
  by_cases h : i = j <;> simp [eqP, h]
/-- texts: all signs are signs -/
theorem strOk_iff {s : Str} : PyData.strOk s = true ↔ ∀ c ∈ tl s, c < 0x110000 := by
  unfold PyData.strOk
  rw [← Array.all_toList, List.all_eq_true]
  simp
theorem mem_joinL {S : List Nat} {c : Nat} : ∀ {l : List (List Nat)}, c ∈ joinL S l → c ∈ S ∨ ∃ p ∈ l, c ∈ p
  | [], h => by simp [joinL] at h
  | [p], h => .inr ⟨p, by simp, by simpa [joinL] using h⟩
  | p :: q :: r, h => by
    unfold joinL at h
    rcases List.mem_append.mp h with h | h
    · exact .inr ⟨p, by simp, h⟩
    · rcases List.mem_append.mp h with h | h
      · exact .inl h
      · rcases mem_joinL h with h | ⟨p', h1, h2⟩
        · exact .inl h
        · exact .inr ⟨p', List.mem_cons_of_mem _ h1, h2⟩
theorem mem_join {sep : Str} {l : List Str} {c : Nat} (h : c ∈ tl (Txt.join sep l)) : c ∈ tl sep ∨ ∃ p ∈ l, c ∈ tl p := by
  rw [join_eq, tl_join] at h
  rcases mem_joinL h with h | ⟨p, h1, h2⟩
  · exact .inl h
  · obtain ⟨q, h3, rfl⟩ := List.mem_map.mp h1
    exact .inr ⟨q, h3, h2⟩
theorem len_joinL {S : List Nat} : ∀ (l : List (List Nat)), (joinL S l).length ≤ (l.map (·.length)).sum + l.length * S.length
  | [] => by simp [joinL]
  | [p] => by simp [joinL]
  | p :: q :: r => by
    have := len_joinL (S := S) (q :: r)
    unfold joinL
    rw [List.length_append, List.length_append, List.map_cons, List.sum_cons, List.length_cons (a := p), Nat.succ_mul]
    omega
theorem len_join {sep : Str} {l : List Str} : (Txt.join sep l).length ≤ (l.map (·.length)).sum + l.length * sep.length := by
  rw [len_tl, join_eq, tl_join]
  have := len_joinL (S := tl sep) (l.map tl)
  rw [List.map_map, List.length_map] at this
  have e : ((fun x : List Nat => x.length) ∘ tl) = fun x : Str => x.length := by funext x; exact (len_tl x).symm
  rw [e, ← len_tl] at this
  exact this
theorem sum_le {α : Type} (f : α → Nat) (k : Nat) : ∀ (l : List α), (∀ x ∈ l, f x ≤ k) → (l.map f).sum ≤ l.length * k
  | [], _ => by simp
  | x :: l, h => by
    have h1 := h x (List.mem_cons_self ..)
    have h2 := sum_le f k l fun y hy => h y (List.mem_cons_of_mem _ hy)
    rw [List.map_cons, List.sum_cons, List.length_cons, Nat.succ_mul]
    omega
/-! ### numbers as texts -/
def dec (i : Int) : Str := Str.ofString (toString i)
def ok60 (i : Int) : Prop := 0 ≤ i ∧ i < 10 ^ 60
theorem dec_tl (n : Nat) : tl (dec ((n : Nat) : Int)) = numL n := tl_num n
theorem dec_tl' {i : Int} (h : 0 ≤ i) : tl (dec i) = numL i.toNat := by
  obtain ⟨n, rfl⟩ := Int.eq_ofNat_of_zero_le h
  exact dec_tl n
theorem dec_len {i : Int} (h : ok60 i) : (dec i).length ≤ 60 := by
  rw [len_tl, dec_tl' h.1]
  exact numL_len (by decide) (by have := h.1; have := h.2; omega)
theorem dec_pos {i : Int} (h : 0 ≤ i) : 1 ≤ (dec i).length := by
  rw [len_tl, dec_tl' h]
  have := numL_ne i.toNat
  cases e : numL i.toNat with
  | nil => exact absurd e this
  | cons => simp
theorem dec_digits {i : Int} (h : 0 ≤ i) {c : Nat} (hc : c ∈ tl (dec i)) : 48 ≤ c ∧ c ≤ 57 := by
  rw [dec_tl' h] at hc
  exact numL_digits _ c hc
theorem dec_int {i : Int} (h : ok60 i) : intText? (dec i) = some i := by
  have hl := dec_len h
  obtain ⟨n, rfl⟩ := Int.eq_ofNat_of_zero_le h.1
  refine int_num ?_
  rw [len_tl, dec_tl] at hl
  omega
theorem dec_ok {i : Int} (h : 0 ≤ i) : PyData.strOk (dec i) = true := strOk_iff.mpr fun c hc => by
  have := dec_digits h hc
  omega
theorem numL_head : ∀ (n : Nat), 1 ≤ n → ∃ c r, numL n = c :: r ∧ 49 ≤ c ∧ c ≤ 57 := by
  intro n
  induction n using Nat.strongRecOn with
  | _ n ih =>
    intro h
    by_cases h10 : n < 10
    · exact ⟨48 + n, [], numL_lt h10, by omega, by omega⟩
    · obtain ⟨c, r, e, h1, h2⟩ := ih (n / 10) (by omega) (by omega)
      exact ⟨c, r ++ [48 + n % 10], by rw [numL_step (by omega), e]; rfl, h1, h2⟩
/-- the first sign; a zero stands alone -/
theorem dec_head {i : Int} (h : 0 ≤ i) : ∃ c r, tl (dec i) = c :: r ∧ 48 ≤ c ∧ c ≤ 57 ∧ (r ≠ [] → c ≠ 48) := by
  rw [dec_tl' h]
  by_cases h0 : i.toNat = 0
  · rw [h0, numL_lt (by decide)]
    exact ⟨48, [], rfl, by omega, by omega, fun h => absurd rfl h⟩
  · obtain ⟨c, r, e, h1, h2⟩ := numL_head i.toNat (by omega)
    exact ⟨c, r, e, by omega, h2, fun _ => by omega⟩
theorem ok60_big {i : Int} (h : ok60 i) : -big < i ∧ i < big := ⟨by have := h.1; unfold big; omega, by have := h.2; unfold big; omega⟩

/-! ### ranges, places, two-clause comprehensions -/
theorem rng_nat (n : Nat) : rng 0 (n : Int) = (List.range n).map fun (i : Nat) => .int (i : Int) := by
  unfold rng
  simp
theorem rng_from (a n : Nat) : rng (a : Int) (n : Int) = (List.range (n - a)).map fun (i : Nat) => .int ((a + i : Nat) : Int) := by
  unfold rng
  have : ((n : Int) - (a : Int)).toNat = n - a := by omega
  rw [this]
  apply List.map_congr_left
  intro i _
  simp
theorem atI_nat {α : Type} (l : List α) (i : Nat) : atI l (i : Int) = l[i]? := by
  unfold atI ixN
  by_cases h : i < l.length
  · have : ((i : Int) < (l.length : Int)) := by omega
    simp [h]
  · have : ¬ ((i : Int) < (l.length : Int)) := by omega
    rw [List.getElem?_eq_none (by omega)]
    simp [h]
theorem ixN_nat {n i : Nat} (h : i < n) : ixN n (i : Int) = some i := by
  unfold ixN
  simp [h]
section
variable {t : Wv → Env' → M Env'} {tt : Env' → M Bool} {t1 : Wv → Env' → M Env'} {tt1 : Env' → M Bool} {te : Env' → M Wv} {it1 : Env' → M (List Py)} {vs1 : List Nat} {env : Env'}
theorem lc2L_of {α β : Type} {st : Store} (f : α → Py) (L : α → List β) (f1 g : α → β → Py) (l : List α) (k : Nat) (hk : k + (l.map fun x => (L x).length).sum ≤ 1000000)
    (h : ∀ x ∈ l, ∃ e1, t (.d (f x)) env st = .ok e1 st ∧ tt e1 st = .ok true st ∧ it1 e1 st = .ok ((L x).map (f1 x)) st ∧
      ∀ y ∈ L x, ∃ e2, t1 (.d (f1 x y)) (wipeV e1 vs1) st = .ok e2 st ∧ tt1 e2 st = .ok true st ∧ te e2 st = .ok (.d (g x y)) st) :
    lc2L t tt it1 vs1 t1 tt1 te env k (l.map f) st = .ok ((l.map fun x => (L x).map (g x)).flatten) st := by
  induction l generalizing k with
  | nil => rfl
  | cons x l ih =>
    obtain ⟨e1, h1, h2, h3, h4⟩ := h x (List.mem_cons_self ..)
    have hk' : k + ((L x).length + (l.map fun x => (L x).length).sum) ≤ 1000000 := by simpa using hk
    have i1 := lcL_of (t := t1) (tt := tt1) (te := te) (env := wipeV e1 vs1) (f1 x) (g x) (L x) k (by omega) h4
    have ih' := ih (k + (L x).length) (by omega) fun y hy => h y (List.mem_cons_of_mem _ hy)
    rw [List.map_cons, List.map_cons, List.flatten_cons]
    unfold lc2L
    simp [h1, h2, h3, i1, ih']
end
end Bj

set_option Elab.async false
set_option linter.all false
set_option maxRecDepth 100000
set_option maxHeartbeats 4000000
/-! The mirrors of the defs of law_k37_texts, printed by gen.py. -/
namespace G37
open PySem L2 Bj
def top (i : Nat) : Stmt := PySem.Challenge.pw_beanjars_k37_texts.main.body.getD i (.Pass ⟨0, 0, 0, 0⟩)
/-- is_integer -/
def b_is_integer : Env' → M Fl := (mRet (mAndV (isiM [] [.b "int"] (mVar 0)) (mNotV (isiM [] [.b "bool"] (mVar 0)))))
def m_is_integer : List Wv → M Wv := wrapP (fnM 1 1 b_is_integer)
/-- are_counts -/
def b_are_counts : Env' → M Fl := (sq (mIfS (mOr (mNot (truT (isiM [] [.b "list", .b "tuple"] (mVar 0)))) (mNot (asB (mChain (oCmp fun i j => decide (i ≤ j)) (oCmp fun i j => decide (i ≤ j)) (mC (.int 1)) (mL (f1 oLen) (mCons (mVar 0) mNil)) (mC (.int 8)))))) (mRet (mC (.bl false))) mPass) (mRet (mL (f1 oAll) (mCons (mLc [1] (mIt frzD (mVar 0)) (mSet 1) mYes (mAndV (mL m_is_integer (mCons (mVar 1) mNil)) (m2 (oCmp fun i j => decide (j ≤ i)) (mVar 1) (mC (.int 0))))) mNil))))
def m_are_counts : List Wv → M Wv := wrapP (fnM 1 2 b_are_counts)
/-- Jar.__init__ -/
def b_Jar__init : Env' → M Fl := (sq (mIfS (mNot (truT (mL m_are_counts (mCons (mVar 1) mNil)))) mBad mPass) (mFldS [0] "own_counts" (mVar 0) (mL (f1 oList) (mCons (mVar 1) mNil))))
def m_Jar__init : List Wv → M Wv := fnM 2 2 b_Jar__init
/-- parse_integer -/
def b_parse_integer : Env' → M Fl := (sq (mIfS (mOr (mNot (asB (mChain (oCmp fun i j => decide (i ≤ j)) (oCmp fun i j => decide (i ≤ j)) (mC (.int 1)) (mL (f1 oLen) (mCons (mVar 0) mNil)) (mC (.int 60))))) (mNot (truT (mL (f1 oAll) (mCons (mLc [1] (mIt (fun w => bnd (strD w) fun s => ret (signs s)) (mVar 0)) (mSet 1) mYes (m2 oIn (mVar 1) (mC (.str "0123456789")))) mNil))))) (mRet (mC .non)) mPass) (mRet (mIf (mAnd (asB (m2 (oCmp fun i j => decide (j < i)) (mL (f1 oLen) (mCons (mVar 0) mNil)) (mC (.int 1)))) (asB (m2 oEq (m2 oIx (mVar 0) (mC (.int 0))) (mC (.str "0"))))) (mC .non) (mL (f1 oInt) (mCons (mVar 0) mNil)))))
def m_parse_integer : List Wv → M Wv := wrapP (fnM 1 2 b_parse_integer)
/-- read_integers -/
def b_read_integers : Env' → M Fl := (mRet (mLc [2] (mIt frzD (mS1 oSplit (mVar 0) (mVar 1))) (mSet 2) mYes (mL m_parse_integer (mCons (mVar 2) mNil))))
def m_read_integers : List Wv → M Wv := wrapP (fnM 2 3 b_read_integers)
/-- parse_jar -/
def b_parse_jar : Env' → M Fl := (sq (mIfS (mNot (truT (isiM [] [.b "str"] (mVar 0)))) mBad mPass) (sq (mAsg (mL m_read_integers (mCons (mVar 0) (mCons (mC (.str " ")) mNil))) (mSet 1)) (sq (mIfS (asB (m2 oIn (mC .non) (mVar 1))) mBad mPass) (sq (mIfS (mNot (truT (mL m_are_counts (mCons (mVar 1) mNil)))) mBad mPass) (mRet (mL (newF 0 m_Jar__init) (mCons (mVar 1) mNil)))))))
def m_parse_jar : List Wv → M Wv := wrapP (fnM 1 2 b_parse_jar)
/-- Jar.__eq__ -/
def b_Jar__eq : Env' → M Fl := (mRet (mAndV (isiM [0] [.c 0] (mVar 1)) (m2 oEq (m1 (getF [0] "own_counts") (mVar 0)) (m1 (getF [0] "own_counts") (mVar 1)))))
def m_Jar__eq : List Wv → M Wv := wrapP (fnM 2 2 b_Jar__eq)
/-- read_draw -/
def b_read_draw : Env' → M Fl := (mMatch2 1 2 (mL m_read_integers (mCons (mVar 0) (mCons (mC (.str "-")) mNil))) (mAnd (asB (m1 notN (mVar 1))) (mAnd (asB (m1 notN (mVar 2))) (asB (m2 (oCmp fun i j => decide (i ≤ j)) (mVar 1) (mVar 2))))) (mRet (mL oTup (mCons (mVar 1) (mCons (mVar 2) mNil)))) (mRet (mC .non)))
def m_read_draw : List Wv → M Wv := wrapP (fnM 1 3 b_read_draw)
/-- parse_way -/
def b_parse_way : Env' → M Fl := (sq (mIfS (mNot (truT (isiM [] [.b "str"] (mVar 0)))) mBad mPass) (sq (mAsg (mIf (asB (m2 oNe (mVar 0) (mC (.str "")))) (mLc [2] (mIt frzD (mS1 oSplit (mVar 0) (mC (.str " ")))) (mSet 2) mYes (mL m_read_draw (mCons (mVar 2) mNil))) (mL oLst mNil)) (mSet 1)) (sq (mIfS (asB (m2 oIn (mC .non) (mVar 1))) mBad mPass) (mRet (mVar 1)))))
def m_parse_way : List Wv → M Wv := wrapP (fnM 1 3 b_parse_way)
/-- format_integers -/
def b_format_integers : Env' → M Fl := (mRet (mS1 oJoin (mVar 1) (mLc [2] (mIt frzD (mVar 0)) (mSet 2) mYes (mL (f1 oStr) (mCons (mVar 2) mNil)))))
def m_format_integers : List Wv → M Wv := wrapP (fnM 2 3 b_format_integers)
/-- format_way -/
def b_format_way : Env' → M Fl := (mRet (mS1 oJoin (mC (.str " ")) (mLc [1] (mIt frzD (mVar 0)) (mSet 1) mYes (mL m_format_integers (mCons (mVar 1) (mCons (mC (.str "-")) mNil))))))
def m_format_way : List Wv → M Wv := wrapP (fnM 1 2 b_format_way)
/-- _law_draw -/
def b_law_draw : Env' → M Fl := (sq (mIfS (asB (m2 (oCmp fun i j => decide (j < i)) (m2 oIx (mVar 0) (mC (.int 0))) (mC (.int 0)))) (sq (mAsg (m2 oMod (m2 oIx (mVar 0) (mC (.int 0))) (mVar 1)) (mSet 2)) (sq (mAsg (m2 oDiv (m2 oIx (mVar 0) (mC (.int 0))) (mVar 1)) (mSub (mVar 0) (mC (.int 0)))) (mRet (mVar 2)))) mPass) (sq (mAsg (m2 oMod (m2 oAdd (m2 oMul (m2 oIx (mVar 0) (mC (.int 1))) (mC (.int 48271))) (mC (.int 11))) (mC (.int 2147483647))) (mSub (mVar 0) (mC (.int 1)))) (mRet (m2 oMod (m2 oDiv (m2 oMod (m2 oMul (m2 oIx (mVar 0) (mC (.int 1))) (m2 oIx (mVar 0) (mC (.int 1)))) (mC (.int 2147483629))) (mC (.int 64))) (mVar 1)))))
def m_law_draw : List Wv → M Wv := fnM 2 3 b_law_draw
/-- Jar.counts -/
def b_Jar_counts : Env' → M Fl := (mRet (mL (f1 oList) (mCons (m1 (getF [0] "own_counts") (mVar 0)) mNil)))
def m_Jar_counts : List Wv → M Wv := wrapP (fnM 1 1 b_Jar_counts)
/-- format_jar -/
def b_format_jar : Env' → M Fl := (mRet (mL m_format_integers (mCons (mMeth0 0 "counts" m_Jar_counts (mVar 0)) (mCons (mC (.str " ")) mNil))))
def m_format_jar : List Wv → M Wv := wrapP (fnM 1 1 b_format_jar)
/-- _law_choose -/
def b_law_choose : Env' → M Fl := (mRet (m2 oIx (mVar 1) (mL m_law_draw (mCons (mVar 0) (mCons (mL (f1 oLen) (mCons (mVar 1) mNil)) mNil)))))
def m_law_choose : List Wv → M Wv := fnM 2 2 b_law_choose
/-- places -/
def b_places : Env' → M Fl := (mRet (mLc2 [1, 2] [2] (mR1 (mCons (mVar 0) mNil)) (mSet 1) mYes (mR1 (mCons (mVar 0) mNil)) (mSet 2) mYes (mL oTup (mCons (mVar 1) (mCons (mVar 2) mNil)))))
def m_places : List Wv → M Wv := wrapP (fnM 1 3 b_places)
/-- is_colour -/
def b_is_colour : Env' → M Fl := (mRet (mAndV (mL m_is_integer (mCons (mVar 1) mNil)) (mChain (oCmp fun i j => decide (i ≤ j)) (oCmp fun i j => decide (i < j)) (mC (.int 0)) (mVar 1) (mVar 0))))
def m_is_colour : List Wv → M Wv := wrapP (fnM 2 2 b_is_colour)
/-- first_wrong_place -/
def b_first_wrong_place_L0 : Env' → M Fl := (mIfS (mOr (mNot (truT (mL m_is_colour (mCons (mL (f1 oLen) (mCons (mVar 0) mNil)) (mCons (m2 oIx (m2 oIx (mVar 0) (mVar 1)) (mVar 2)) mNil))))) (mAnd (asB (m2 (oCmp fun i j => decide (i < j)) (mVar 2) (mVar 1))) (asB (m2 oNe (m2 oIx (m2 oIx (mVar 0) (mVar 2)) (mVar 1)) (m2 oIx (m2 oIx (mVar 0) (mVar 1)) (mVar 2)))))) (mRet (mL oTup (mCons (mVar 1) (mCons (mVar 2) mNil)))) mPass)
def b_first_wrong_place : Env' → M Fl := (sq (mFor (mIt frzD (mL m_places (mCons (mL (f1 oLen) (mCons (mVar 0) mNil)) mNil))) (mUnT 2 (mTCons (mSet 1) (mTCons (mSet 2) mTNil))) b_first_wrong_place_L0) (mRet (mC .non)))
def m_first_wrong_place : List Wv → M Wv := wrapP (fnM 1 3 b_first_wrong_place)
/-- has_shape -/
def b_has_shape : Env' → M Fl := (sq (mIfS (mOr (mNot (truT (isiM [] [.b "list", .b "tuple"] (mVar 0)))) (mNot (asB (mChain (oCmp fun i j => decide (i ≤ j)) (oCmp fun i j => decide (i ≤ j)) (mC (.int 1)) (mL (f1 oLen) (mCons (mVar 0) mNil)) (mC (.int 8)))))) (mRet (mC (.bl false))) mPass) (mRet (mL (f1 oAll) (mCons (mLc [1] (mIt frzD (mVar 0)) (mSet 1) mYes (mAndV (isiM [] [.b "list", .b "tuple"] (mVar 1)) (m2 oEq (mL (f1 oLen) (mCons (mVar 1) mNil)) (mL (f1 oLen) (mCons (mVar 0) mNil))))) mNil))))
def m_has_shape : List Wv → M Wv := wrapP (fnM 1 2 b_has_shape)
/-- Table.__init__ -/
def b_Table__init : Env' → M Fl := (sq (mIfS (mNot (truT (mL m_has_shape (mCons (mVar 1) mNil)))) mBad mPass) (sq (mAsg (mL m_first_wrong_place (mCons (mVar 1) mNil)) (mSet 2)) (sq (mIfS (asB (m1 notN (mVar 2))) mBad mPass) (mFldS [1] "own_rows" (mVar 0) (mLc [3] (mIt frzD (mVar 1)) (mSet 3) mYes (mL (f1 oList) (mCons (mVar 3) mNil)))))))
def m_Table__init : List Wv → M Wv := fnM 2 4 b_Table__init
/-- parse_table -/
def b_parse_table : Env' → M Fl := (sq (mIfS (mNot (truT (isiM [] [.b "str"] (mVar 0)))) mBad mPass) (sq (mAsg (mLc [3] (mIt frzD (mS1 oSplit (mVar 0) (mC (.str "\n")))) (mSet 3) mYes (mL m_read_integers (mCons (mVar 3) (mCons (mC (.str " ")) mNil)))) (mSet 1)) (sq (mAsg (mLc [4, 3] (mIt enumD (mVar 1)) (mUnT 2 (mTCons (mSet 4) (mTCons (mSet 3) mTNil))) (asB (m2 oIn (mC .non) (mVar 3))) (mVar 4)) (mSet 2)) (sq (mIfS (truT (mVar 2)) mBad mPass) (mTry0 (mRet (mL (newF 1 m_Table__init) (mCons (mVar 1) mNil))))))))
def m_parse_table : List Wv → M Wv := wrapP (fnM 1 5 b_parse_table)
/-- Table.__eq__ -/
def b_Table__eq : Env' → M Fl := (mRet (mAndV (isiM [1] [.c 1] (mVar 1)) (m2 oEq (m1 (getF [1] "own_rows") (mVar 0)) (m1 (getF [1] "own_rows") (mVar 1)))))
def m_Table__eq : List Wv → M Wv := wrapP (fnM 2 2 b_Table__eq)
/-- Table.rows -/
def b_Table_rows : Env' → M Fl := (mRet (mLc [1] (mIt frzD (m1 (getF [1] "own_rows") (mVar 0))) (mSet 1) mYes (mL (f1 oList) (mCons (mVar 1) mNil))))
def m_Table_rows : List Wv → M Wv := wrapP (fnM 1 2 b_Table_rows)
/-- format_table -/
def b_format_table : Env' → M Fl := (mRet (mS1 oJoin (mC (.str "\n")) (mLc [1] (mIt frzD (mMeth0 1 "rows" m_Table_rows (mVar 0))) (mSet 1) mYes (mL m_format_integers (mCons (mVar 1) (mCons (mC (.str " ")) mNil))))))
def m_format_table : List Wv → M Wv := wrapP (fnM 1 2 b_format_table)
/-- _law_rows -/
def b_law_rows_L0 : Env' → M Fl := (sq (mAsg (mL m_law_draw (mCons (mVar 0) (mCons (mVar 1) mNil))) (mSet 5)) (sq (mAsg (mVar 5) (mSub (m2 oIx (mVar 2) (mVar 3)) (mVar 4))) (mAsg (mVar 5) (mSub (m2 oIx (mVar 2) (mVar 4)) (mVar 3)))))
def b_law_rows_L1 : Env' → M Fl := (mFor (mR2 (mCons (mVar 3) (mCons (mVar 1) mNil))) (mSet 4) b_law_rows_L0)
def b_law_rows : Env' → M Fl := (sq (mAsg (mLcC [3] (mR1 (mCons (mVar 1) mNil)) (mSet 3) mYes (m2 oMulC (mL oLst (mCons (mC (.int 0)) mNil)) (mVar 1))) (mSet 2)) (sq (mFor (mR1 (mCons (mVar 1) mNil)) (mSet 3) b_law_rows_L1) (mFrzV 2 (mRet (mVar 2)))))
def m_law_rows : List Wv → M Wv := fnM 2 6 b_law_rows
/-- _law_kind -/
def b_law_kind : Env' → M Fl := (sq (mAsg (mL m_law_draw (mCons (mVar 0) (mCons (mC (.int 6)) mNil))) (mSet 2)) (sq (mIfS (asB (m2 oEq (mVar 2) (mC (.int 0)))) (mRet (mLc [3] (mR1 (mCons (mVar 1) mNil)) (mSet 3) mYes (mLc [4] (mR1 (mCons (mVar 1) mNil)) (mSet 4) mYes (m2 oMod (m2 oAdd (mVar 3) (mVar 4)) (mVar 1))))) mPass) (sq (mIfS (asB (m2 oEq (mVar 2) (mC (.int 1)))) (mRet (mLc [3] (mR1 (mCons (mVar 1) mNil)) (mSet 3) mYes (mLc [4] (mR1 (mCons (mVar 1) mNil)) (mSet 4) mYes (mL (f2 oMax2) (mCons (mVar 3) (mCons (mVar 4) mNil)))))) mPass) (sq (mIfS (asB (m2 oEq (mVar 2) (mC (.int 2)))) (mRet (mLc [3] (mR1 (mCons (mVar 1) mNil)) (mSet 3) mYes (mLc [4] (mR1 (mCons (mVar 1) mNil)) (mSet 4) mYes (mL (f2 oMin2) (mCons (m2 oAdd (mVar 3) (mVar 4)) (mCons (m2 oSub (mVar 1) (mC (.int 1))) mNil)))))) mPass) (sq (mIfS (asB (m2 oEq (mVar 2) (mC (.int 3)))) (mRet (mLc [3] (mR1 (mCons (mVar 1) mNil)) (mSet 3) mYes (mLc [4] (mR1 (mCons (mVar 1) mNil)) (mSet 4) mYes (m2 oMod (m2 oMul (mVar 3) (mVar 4)) (mVar 1))))) mPass) (mRet (mL m_law_rows (mCons (mVar 0) (mCons (mVar 1) mNil)))))))))
def m_law_kind : List Wv → M Wv := fnM 2 5 b_law_kind
/-- _law_pool -/
def b_law_pool : Env' → M Fl := (sq (mAsg (mC (.int 0)) (mSet 2)) (sq (mIfS (asB (m2 (oCmp fun i j => decide (i < j)) (mVar 1) (mL (f1 oLen) (mCons (mVar 0) mNil)))) (mAsg (m2 oIx (mVar 0) (mVar 1)) (mSet 2)) mPass) (sq (mAsg (m2 oMod (m2 oPow (m2 oAdd (m2 oAdd (m2 oMod (mVar 2) (mC (.int 2147483629))) (m2 oMul (m2 oMul (mC (.int 7919)) (mVar 1)) (mVar 1))) (mC (.int 31))) (mC (.int 3))) (mC (.int 2147483647))) (mSet 3)) (sq (mIfS (asB (m2 (oCmp fun i j => decide (i < j)) (mVar 2) (m2 oPow (mC (.int 10)) (mC (.int 18))))) (mAsg (mC (.int 0)) (mSet 2)) mPass) (mRet (mL oLstC (mCons (mVar 2) (mCons (mVar 3) mNil))))))))
def m_law_pool : List Wv → M Wv := fnM 2 4 b_law_pool
/-- law -/
def b_law_L0 : Env' → M Fl := (mDrop (mBM chkL oAppend (mVar 7) (mCons (mL (f1 oTuple) (mCons (mL (f1 oSortI) (mCons (mL oLst (mCons (mL m_law_draw (mCons (mVar 2) (mCons (mVar 3) mNil))) (mCons (mL m_law_draw (mCons (mVar 2) (mCons (mC (.int 12)) mNil))) mNil))) mNil)) mNil)) mNil)))
def b_law_L1 : Env' → M Fl := (sq (mAsg (mL m_law_pool (mCons (mVar 0) (mCons (mVar 1) mNil))) (mSet 2)) (sq (mAsg (m2 oAdd (mC (.int 1)) (mL m_law_draw (mCons (mVar 2) (mCons (mC (.int 8)) mNil)))) (mSet 3)) (sq (mAsg (mL m_law_kind (mCons (mVar 2) (mCons (mVar 3) mNil))) (mSet 4)) (sq (mAsg (mS1 oJoin (mC (.str "\n")) (mLc [10] (mIt frzD (mVar 4)) (mSet 10) mYes (mS1 oJoin (mC (.str " ")) (mLc [9] (mIt frzD (mVar 10)) (mSet 9) mYes (mL (f1 oStr) (mCons (mVar 9) mNil)))))) (mSet 5)) (sq (mIfS (mOr (asB (m2 oNe (mL m_format_table (mCons (mL (newF 1 m_Table__init) (mCons (mVar 4) mNil)) mNil)) (mVar 5))) (asB (m2 (orOwn 1 m_Table__eq true oNe) (mL m_parse_table (mCons (mVar 5) mNil)) (mL (newF 1 m_Table__init) (mCons (mVar 4) mNil))))) (mRet (mC (.bl false))) mPass) (sq (mAsg (mLc [9] (mR1 (mCons (mVar 3) mNil)) (mSet 9) mYes (mL m_law_choose (mCons (mVar 2) (mCons (mL oLst (mCons (mC (.int 0)) (mCons (mC (.int 7)) (mCons (m2 oAdd (m2 oPow (mC (.int 10)) (mC (.int 59))) (mL m_law_draw (mCons (mVar 2) (mCons (mC (.int 9)) mNil)))) (mCons (mL m_law_draw (mCons (mVar 2) (mCons (m2 oPow (mC (.int 10)) (mC (.int 30))) mNil))) mNil))))) mNil)))) (mSet 6)) (sq (mAsg (mS1 oJoin (mC (.str " ")) (mLc [11] (mIt frzD (mVar 6)) (mSet 11) mYes (mL (f1 oStr) (mCons (mVar 11) mNil)))) (mSet 5)) (sq (mIfS (mOr (asB (m2 oNe (mL m_format_jar (mCons (mL (newF 0 m_Jar__init) (mCons (mVar 6) mNil)) mNil)) (mVar 5))) (asB (m2 (orOwn 0 m_Jar__eq true oNe) (mL m_parse_jar (mCons (mVar 5) mNil)) (mL (newF 0 m_Jar__init) (mCons (mVar 6) mNil))))) (mRet (mC (.bl false))) mPass) (sq (mAsg (mL oLstC mNil) (mSet 7)) (sq (mFor (mR1 (mCons (mL m_law_draw (mCons (mVar 2) (mCons (mC (.int 6)) mNil))) mNil)) (mSet 8) b_law_L0) (mFrzV 7 (sq (mAsg (mS1 oJoin (mC (.str " ")) (mLc [12, 13] (mIt frzD (mVar 7)) (mUnT 2 (mTCons (mSet 12) (mTCons (mSet 13) mTNil))) mYes (m2 oAdd (m2 oAdd (mL (f1 oStr) (mCons (mVar 12) mNil)) (mC (.str "-"))) (mL (f1 oStr) (mCons (mVar 13) mNil))))) (mSet 5)) (mIfS (mOr (asB (m2 oNe (mL m_format_way (mCons (mVar 7) mNil)) (mVar 5))) (asB (m2 oNe (mL m_parse_way (mCons (mVar 5) mNil)) (mVar 7)))) (mRet (mC (.bl false))) mPass)))))))))))))
def b_law : Env' → M Fl := (sq (mFor (mR1 (mCons (mL (f2 oMax2) (mCons (mC (.int 1)) (mCons (mL (f2 oMin2) (mCons (mL (f1 oLen) (mCons (mVar 0) mNil)) (mCons (mC (.int 8)) mNil))) mNil))) mNil)) (mSet 1) b_law_L1) (mRet (mAndV (m2 oEq (mL m_format_way (mCons (mL oLst mNil) mNil)) (mC (.str ""))) (mAndV (m2 oEq (mL m_parse_way (mCons (mC (.str "")) mNil)) (mL oLst mNil)) (m2 (orOwn 0 m_Jar__eq false oEq) (mL m_parse_jar (mCons (mC (.str "0")) mNil)) (mL (newF 0 m_Jar__init) (mCons (mL oLst (mCons (mC (.int 0)) mNil)) mNil)))))))
def m_law : List Wv → M Wv := fnM 1 14 b_law
structure Txt (K : PySem.W.Frag) (mg : Str → Option Value) (Γ : Gam) (A : Nat → Addr) (D : Nat → FuncData) (B : Nat → Addr) : Prop where
  F_3 : Fun K "is_integer" "is_integer" (top 11) (A 3) (D 3)
  b_3 : L2.Binds K (D 3) ["value"] []
  k_3 : PySem.W.keepIn K (.ref (A 3)) = true
  g_3 : mg "is_integer" = some (.ref (A 3))
  F_2 : Fun K "are_counts" "are_counts" (top 18) (A 2) (D 2)
  b_2 : L2.Binds K (D 2) ["value"] []
  k_2 : PySem.W.keepIn K (.ref (A 2)) = true
  g_2 : mg "are_counts" = some (.ref (A 2))
  F_1 : Fun K "__init__" "Jar.__init__" (inClass (top 19) 0) (A 1) (D 1)
  b_1 : L2.Binds K (D 1) ["self", "counts"] []
  k_1 : PySem.W.keepIn K (.ref (A 1)) = true
  fn_1 : PySem.W.isFn K (.ref (A 1)) = true
  F_5 : Fun K "parse_integer" "parse_integer" (top 22) (A 5) (D 5)
  b_5 : L2.Binds K (D 5) ["text"] []
  k_5 : PySem.W.keepIn K (.ref (A 5)) = true
  g_5 : mg "parse_integer" = some (.ref (A 5))
  F_4 : Fun K "read_integers" "read_integers" (top 23) (A 4) (D 4)
  b_4 : L2.Binds K (D 4) ["text", "sign"] []
  k_4 : PySem.W.keepIn K (.ref (A 4)) = true
  g_4 : mg "read_integers" = some (.ref (A 4))
  F_0 : Fun K "parse_jar" "parse_jar" (top 26) (A 0) (D 0)
  b_0 : L2.Binds K (D 0) ["text"] []
  k_0 : PySem.W.keepIn K (.ref (A 0)) = true
  g_0 : mg "parse_jar" = some (.ref (A 0))
  F_6 : Fun K "__eq__" "Jar.__eq__" (inClass (top 19) 17) (A 6) (D 6)
  b_6 : L2.Binds K (D 6) ["self", "other"] []
  k_6 : PySem.W.keepIn K (.ref (A 6)) = true
  fn_6 : PySem.W.isFn K (.ref (A 6)) = true
  F_8 : Fun K "read_draw" "read_draw" (top 30) (A 8) (D 8)
  b_8 : L2.Binds K (D 8) ["text"] []
  k_8 : PySem.W.keepIn K (.ref (A 8)) = true
  g_8 : mg "read_draw" = some (.ref (A 8))
  F_7 : Fun K "parse_way" "parse_way" (top 31) (A 7) (D 7)
  b_7 : L2.Binds K (D 7) ["text"] []
  k_7 : PySem.W.keepIn K (.ref (A 7)) = true
  g_7 : mg "parse_way" = some (.ref (A 7))
  F_10 : Fun K "format_integers" "format_integers" (top 24) (A 10) (D 10)
  b_10 : L2.Binds K (D 10) ["values", "sign"] []
  k_10 : PySem.W.keepIn K (.ref (A 10)) = true
  g_10 : mg "format_integers" = some (.ref (A 10))
  F_9 : Fun K "format_way" "format_way" (top 29) (A 9) (D 9)
  b_9 : L2.Binds K (D 9) ["way"] []
  k_9 : PySem.W.keepIn K (.ref (A 9)) = true
  g_9 : mg "format_way" = some (.ref (A 9))
  F_11 : Fun K "_law_draw" "_law_draw" (top 34) (A 11) (D 11)
  b_11 : L2.Binds K (D 11) ["_law_pool_here", "_law_many"] []
  k_11 : PySem.W.keepIn K (.ref (A 11)) = true
  g_11 : mg "_law_draw" = some (.ref (A 11))
  F_13 : Fun K "counts" "Jar.counts" (inClass (top 19) 4) (A 13) (D 13)
  b_13 : L2.Binds K (D 13) ["self"] []
  k_13 : PySem.W.keepIn K (.ref (A 13)) = true
  fn_13 : PySem.W.isFn K (.ref (A 13)) = true
  me_13 : Meth K (Γ.cls 0) "counts" (A 13)
  F_12 : Fun K "format_jar" "format_jar" (top 25) (A 12) (D 12)
  b_12 : L2.Binds K (D 12) ["jar"] []
  k_12 : PySem.W.keepIn K (.ref (A 12)) = true
  g_12 : mg "format_jar" = some (.ref (A 12))
  F_14 : Fun K "_law_choose" "_law_choose" (top 35) (A 14) (D 14)
  b_14 : L2.Binds K (D 14) ["_law_pool_here", "_law_items"] []
  k_14 : PySem.W.keepIn K (.ref (A 14)) = true
  g_14 : mg "_law_choose" = some (.ref (A 14))
  F_18 : Fun K "places" "places" (top 14) (A 18) (D 18)
  b_18 : L2.Binds K (D 18) ["size"] []
  k_18 : PySem.W.keepIn K (.ref (A 18)) = true
  g_18 : mg "places" = some (.ref (A 18))
  F_19 : Fun K "is_colour" "is_colour" (top 12) (A 19) (D 19)
  b_19 : L2.Binds K (D 19) ["size", "value"] []
  k_19 : PySem.W.keepIn K (.ref (A 19)) = true
  g_19 : mg "is_colour" = some (.ref (A 19))
  F_17 : Fun K "first_wrong_place" "first_wrong_place" (top 15) (A 17) (D 17)
  b_17 : L2.Binds K (D 17) ["rows"] []
  k_17 : PySem.W.keepIn K (.ref (A 17)) = true
  g_17 : mg "first_wrong_place" = some (.ref (A 17))
  F_20 : Fun K "has_shape" "has_shape" (top 13) (A 20) (D 20)
  b_20 : L2.Binds K (D 20) ["rows"] []
  k_20 : PySem.W.keepIn K (.ref (A 20)) = true
  g_20 : mg "has_shape" = some (.ref (A 20))
  F_16 : Fun K "__init__" "Table.__init__" (inClass (top 16) 0) (A 16) (D 16)
  b_16 : L2.Binds K (D 16) ["self", "rows"] []
  k_16 : PySem.W.keepIn K (.ref (A 16)) = true
  fn_16 : PySem.W.isFn K (.ref (A 16)) = true
  F_15 : Fun K "parse_table" "parse_table" (top 28) (A 15) (D 15)
  b_15 : L2.Binds K (D 15) ["text"] []
  k_15 : PySem.W.keepIn K (.ref (A 15)) = true
  g_15 : mg "parse_table" = some (.ref (A 15))
  F_21 : Fun K "__eq__" "Table.__eq__" (inClass (top 16) 10) (A 21) (D 21)
  b_21 : L2.Binds K (D 21) ["self", "other"] []
  k_21 : PySem.W.keepIn K (.ref (A 21)) = true
  fn_21 : PySem.W.isFn K (.ref (A 21)) = true
  F_23 : Fun K "rows" "Table.rows" (inClass (top 16) 2) (A 23) (D 23)
  b_23 : L2.Binds K (D 23) ["self"] []
  k_23 : PySem.W.keepIn K (.ref (A 23)) = true
  fn_23 : PySem.W.isFn K (.ref (A 23)) = true
  me_23 : Meth K (Γ.cls 1) "rows" (A 23)
  F_22 : Fun K "format_table" "format_table" (top 27) (A 22) (D 22)
  b_22 : L2.Binds K (D 22) ["table"] []
  k_22 : PySem.W.keepIn K (.ref (A 22)) = true
  g_22 : mg "format_table" = some (.ref (A 22))
  F_25 : Fun K "_law_rows" "_law_rows" (top 36) (A 25) (D 25)
  b_25 : L2.Binds K (D 25) ["_law_pool_here", "_law_size"] []
  k_25 : PySem.W.keepIn K (.ref (A 25)) = true
  g_25 : mg "_law_rows" = some (.ref (A 25))
  F_24 : Fun K "_law_kind" "_law_kind" (top 37) (A 24) (D 24)
  b_24 : L2.Binds K (D 24) ["_law_pool_here", "_law_size"] []
  k_24 : PySem.W.keepIn K (.ref (A 24)) = true
  g_24 : mg "_law_kind" = some (.ref (A 24))
  F_26 : Fun K "_law_pool" "_law_pool" (top 33) (A 26) (D 26)
  b_26 : L2.Binds K (D 26) ["_law_script", "_law_k"] []
  k_26 : PySem.W.keepIn K (.ref (A 26)) = true
  g_26 : mg "_law_pool" = some (.ref (A 26))
  F_27 : Fun K "law" "law" (top 38) (A 27) (D 27)
  b_27 : L2.Binds K (D 27) ["_law_script"] []
  k_27 : PySem.W.keepIn K (.ref (A 27)) = true
  g_27 : mg "law" = some (.ref (A 27))
  mg_0 : mg "Jar" = some (.ref (Γ.cls 0))
  cl_0 : Cls K (Γ.cls 0)
  mk_0 : Mk K (Γ.cls 0) (A 1)
  eq_0 : PySem.W.findIn K (.ref (Γ.cls 0)) "__eq__" = some (some (.ref (A 6)))
  ne_0 : PySem.W.findIn K (.ref (Γ.cls 0)) "__ne__" = some (some (.builtin "object.__ne__"))
  ob_0 : PySem.W.mroIn K (Γ.cls 0) (.type "object") = some true
  ic_0 : IsC K (Γ.cls 0)
  if_0 : InsF K (Γ.cls 0)
  mg_1 : mg "Table" = some (.ref (Γ.cls 1))
  cl_1 : Cls K (Γ.cls 1)
  mk_1 : Mk K (Γ.cls 1) (A 16)
  eq_1 : PySem.W.findIn K (.ref (Γ.cls 1)) "__eq__" = some (some (.ref (A 21)))
  ne_1 : PySem.W.findIn K (.ref (Γ.cls 1)) "__ne__" = some (some (.builtin "object.__ne__"))
  ob_1 : PySem.W.mroIn K (Γ.cls 1) (.type "object") = some true
  ic_1 : IsC K (Γ.cls 1)
  if_1 : InsF K (Γ.cls 1)
  mg_2 : mg "InvalidTable" = some (.ref (Γ.cls 2))
  fl_own_counts_0 : FldF Γ K [0] "own_counts"
  fl_own_rows_1 : FldF Γ K [1] "own_rows"
  gc_MAX_COLOURS : ∃ t, mg "MAX_COLOURS" = some (.int 8 t)
  gc_DIGITS : ∃ t, mg "DIGITS" = some (.str "0123456789" t)
  n_list : mg "list" = none
  n_all : mg "all" = none
  n_isinstance : mg "isinstance" = none
  n_bool : mg "bool" = none
  n_int : mg "int" = none
  n_len : mg "len" = none
  n_tuple : mg "tuple" = none
  n_str : mg "str" = none
  n_range : mg "range" = none
  n_max : mg "max" = none
  n_min : mg "min" = none
  n_sorted : mg "sorted" = none
  n_enumerate : mg "enumerate" = none
section
variable {P : Program} {w : World} {K : PySem.W.Frag} {mg : Str → Option Value} {base : Heap} {Γ : Gam} {A : Nat → Addr} {D : Nat → FuncData} {B : Nat → Addr}
theorem sc_3 : FnScope ["value"] ["value"] (defScope (top 11)) := ⟨rfl, rfl, rfl, by decide +kernel, rfl, by decide +kernel, by decide +kernel⟩
/-- is_integer -/
theorem ok_3 (T : Txt K mg Γ A D B) : FnM Γ P w K mg base 1 (A 3) (D 3) ["value"] m_is_integer :=
  have S := sc_3
  (fn_ok (N := ["value"]) (b := b_is_integer) T.F_3 S fun cdv AA outer s H E hr => (s_one (s_ret (e_and (e_isi [] (fun _ h => nomatch h) (isf_b (by simp)) (e_var 0) (.ty "int") (pe_bltn (u := .type "int") (by rfl) T.n_int (by decide +kernel) (by rfl)) T.n_isinstance) (e_one (e_not (e_isi [] (fun _ h => nomatch h) (isf_b (by simp)) (e_var 0) (.ty "bool") (pe_bltn (u := .type "bool") (by rfl) T.n_bool (by decide +kernel) (by rfl)) T.n_isinstance))))))).wrap
theorem sc_2 : FnScope ["value", "count"] ["value"] (defScope (top 18)) := ⟨rfl, rfl, rfl, by decide +kernel, rfl, by decide +kernel, by decide +kernel⟩
/-- are_counts -/
theorem ok_2 (T : Txt K mg Γ A D B) : FnM Γ P w K mg base 2 (A 2) (D 2) ["value"] m_are_counts :=
  have S := sc_2
  (fn_ok (N := ["value", "count"]) (b := b_are_counts) T.F_2 S fun cdv AA outer s H E hr => (s_cons (s_if (w_or (t_not (t_tru (e_isi2 [] (fun _ h => nomatch h) (isf_b (by simp)) (isf_b (by simp)) (e_var 0) (pe_bltn (u := .type "list") (by rfl) T.n_list (by decide +kernel) (by rfl)) (pe_bltn (u := .type "tuple") (by rfl) T.n_tuple (by decide +kernel) (by rfl)) T.n_isinstance))) (w_or1 (t_not (t_chain r_le r_le e_int (e_callB c_len T.n_len (a_cons (e_var 0) a_nil)) (e_globI (i := 8) T.gc_MAX_COLOURS.choose_spec))))).pt (s_one (s_ret e_bl)) s_nil) (s_one (s_ret (e_callB (c_all rfl) T.n_all (a_cons (e_lc (own := [("count", 1)]) S.nd (blkOk_by (by rfl)) (i_seq (e_var 0)) (fun _ _ _ _ _ => (g_name (i := 1) S.nd)) (fun _ _ _ _ _ => t_yes) (fun _ _ _ _ _ => (e_and (e_call (ok_3 T) (hr.mono (by decide)) T.g_3 T.k_3 T.b_3 passL (a_cons (e_var 1) a_nil)) (e_one (e_cmp r_ge (e_var 1) e_int (nomark _)))))) a_nil)))))).wrap
theorem sc_1 : FnScope ["self", "counts"] ["self", "counts"] (defScope (inClass (top 19) 0)) := ⟨rfl, rfl, rfl, by decide +kernel, rfl, by decide +kernel, by decide +kernel⟩
/-- Jar.__init__ -/
theorem ok_1 (T : Txt K mg Γ A D B) : FnM Γ P w K mg base 3 (A 1) (D 1) ["self", "counts"] m_Jar__init :=
  have S := sc_1
  (fn_ok (N := ["self", "counts"]) (b := b_Jar__init) T.F_1 S fun cdv AA outer s H E hr => (s_cons (s_if (t_not (t_tru (e_call (ok_2 T) (hr.mono (by decide)) T.g_2 T.k_2 T.b_2 px (a_cons (e_var 1) a_nil)))) (s_one s_never) s_nil) (s_one (s_fld [0] T.fl_own_counts_0 (e_var 0) (e_callT c_list T.n_list (a_cons (e_var 1) a_nil))))))
theorem sc_5 : FnScope ["text", "sign"] ["text"] (defScope (top 22)) := ⟨rfl, rfl, rfl, by decide +kernel, rfl, by decide +kernel, by decide +kernel⟩
/-- parse_integer -/
theorem ok_5 (T : Txt K mg Γ A D B) : FnM Γ P w K mg base 1 (A 5) (D 5) ["text"] m_parse_integer :=
  have S := sc_5
  (fn_ok (N := ["text", "sign"]) (b := b_parse_integer) T.F_5 S fun cdv AA outer s H E hr => (s_cons (s_if (w_or (t_not (t_chain r_le r_le e_int (e_callB c_len T.n_len (a_cons (e_var 0) a_nil)) e_int)) (w_or1 (t_not (t_tru (e_callB (c_all rfl) T.n_all (a_cons (e_lc (own := [("sign", 1)]) S.nd (blkOk_by (by rfl)) (i_str (e_var 0)) (fun _ _ _ _ _ => (g_name (i := 1) S.nd)) (fun _ _ _ _ _ => t_yes) (fun _ _ _ _ _ => (e_cmp (r_in (hu65 hr)) (e_var 1) (e_globS (i := "0123456789") T.gc_DIGITS.choose_spec) rfl))) a_nil)))))).pt (s_one (s_ret e_non)) s_nil) (s_one (s_ret (e_if (w_and (t_cmp r_gt (e_callB c_len T.n_len (a_cons (e_var 0) a_nil)) e_int (nomark _)) (w_and1 (t_cmp (r_eq (hu64 hr)) (e_ix (e_var 0) e_int) e_str (nomark _)))).pt e_non (e_callT c_int T.n_int (a_cons (e_var 0) a_nil))))))).wrap
theorem sc_4 : FnScope ["text", "sign", "part"] ["text", "sign"] (defScope (top 23)) := ⟨rfl, rfl, rfl, by decide +kernel, rfl, by decide +kernel, by decide +kernel⟩
/-- read_integers -/
theorem ok_4 (T : Txt K mg Γ A D B) : FnM Γ P w K mg base 2 (A 4) (D 4) ["text", "sign"] m_read_integers :=
  have S := sc_4
  (fn_ok (N := ["text", "sign", "part"]) (b := b_read_integers) T.F_4 S fun cdv AA outer s H E hr => (s_one (s_ret (e_lc (own := [("part", 2)]) S.nd (blkOk_by (by rfl)) (i_seq (e_split (e_var 0) (e_var 1))) (fun _ _ _ _ _ => (g_name (i := 2) S.nd)) (fun _ _ _ _ _ => t_yes) (fun _ _ _ _ _ => (e_call (ok_5 T) (hr.mono (by decide)) T.g_5 T.k_5 T.b_5 passL (a_cons (e_var 2) a_nil))))))).wrap
theorem sc_0 : FnScope ["text", "counts"] ["text"] (defScope (top 26)) := ⟨rfl, rfl, rfl, by decide +kernel, rfl, by decide +kernel, by decide +kernel⟩
/-- parse_jar -/
theorem ok_0 (T : Txt K mg Γ A D B) : FnM Γ P w K mg base 5 (A 0) (D 0) ["text"] m_parse_jar :=
  have S := sc_0
  (fn_ok (N := ["text", "counts"]) (b := b_parse_jar) T.F_0 S fun cdv AA outer s H E hr => (s_cons (s_if (t_not (t_tru (e_isi [] (fun _ h => nomatch h) (isf_b (by simp)) (e_var 0) (.ty "str") (pe_bltn (u := .type "str") (by rfl) T.n_str (by decide +kernel) (by rfl)) T.n_isinstance))) (s_one s_never) s_nil) (s_cons (s_set (i := 1) S.nd (e_call (ok_4 T) (hr.mono (by decide)) T.g_4 T.k_4 T.b_4 px (a_cons (e_var 0) (a_cons e_str a_nil)))) (s_cons (s_if (t_cmp (r_in (hu65 hr)) e_non (e_var 1) rfl) (s_one s_never) s_nil) (s_cons (s_if (t_not (t_tru (e_call (ok_2 T) (hr.mono (by decide)) T.g_2 T.k_2 T.b_2 px (a_cons (e_var 1) a_nil)))) (s_one s_never) s_nil) (s_one (s_ret (e_makeF (c := 0) T.mk_0 (ok_1 T) (hr.mono (by decide)) T.mg_0 T.b_1 px (a_cons (e_var 1) a_nil))))))))).wrap
theorem sc_6 : FnScope ["self", "other"] ["self", "other"] (defScope (inClass (top 19) 17)) := ⟨rfl, rfl, rfl, by decide +kernel, rfl, by decide +kernel, by decide +kernel⟩
/-- Jar.__eq__ -/
theorem ok_6 (T : Txt K mg Γ A D B) : FnM Γ P w K mg base 1 (A 6) (D 6) ["self", "other"] m_Jar__eq :=
  have S := sc_6
  (fn_ok (N := ["self", "other"]) (b := b_Jar__eq) T.F_6 S fun cdv AA outer s H E hr => (s_one (s_ret (e_and (e_isi [0] (fun _ h => (List.mem_singleton.mp h) ▸ T.if_0) (isf_c T.ic_0) (e_var 1) (.own _) (pe_glob (by rfl) T.mg_0 rfl) T.n_isinstance) (e_one (e_cmp (r_eq (hu64 hr)) (e_fld [0] T.fl_own_counts_0 (e_var 0)) (e_fld [0] T.fl_own_counts_0 (e_var 1)) (nomark _))))))).wrap
theorem sc_8 : FnScope ["text", "first", "second"] ["text"] (defScope (top 30)) := ⟨rfl, rfl, rfl, by decide +kernel, rfl, by decide +kernel, by decide +kernel⟩
/-- read_draw -/
theorem ok_8 (T : Txt K mg Γ A D B) : FnM Γ P w K mg base 3 (A 8) (D 8) ["text"] m_read_draw :=
  have S := sc_8
  (fn_ok (N := ["text", "first", "second"]) (b := b_read_draw) T.F_8 S fun cdv AA outer s H E hr => (s_one (s_match2 (i := 1) (j := 2) S.nd (e_call (ok_4 T) (hr.mono (by decide)) T.g_4 T.k_4 T.b_4 px (a_cons (e_var 0) (a_cons e_str a_nil))) (w_and (t_notN (e_var 1)) (w_and (t_notN (e_var 2)) (w_and1 (t_cmp r_le (e_var 1) (e_var 2) (nomark _))))).pt (s_one (s_ret (e_tup (a_cons (e_var 1) (a_cons (e_var 2) a_nil))))) (s_one (s_ret e_non))))).wrap
theorem sc_7 : FnScope ["text", "draws", "word"] ["text"] (defScope (top 31)) := ⟨rfl, rfl, rfl, by decide +kernel, rfl, by decide +kernel, by decide +kernel⟩
/-- parse_way -/
theorem ok_7 (T : Txt K mg Γ A D B) : FnM Γ P w K mg base 4 (A 7) (D 7) ["text"] m_parse_way :=
  have S := sc_7
  (fn_ok (N := ["text", "draws", "word"]) (b := b_parse_way) T.F_7 S fun cdv AA outer s H E hr => (s_cons (s_if (t_not (t_tru (e_isi [] (fun _ h => nomatch h) (isf_b (by simp)) (e_var 0) (.ty "str") (pe_bltn (u := .type "str") (by rfl) T.n_str (by decide +kernel) (by rfl)) T.n_isinstance))) (s_one s_never) s_nil) (s_cons (s_set (i := 1) S.nd (e_if (t_cmp (r_ne (hu64 hr)) (e_var 0) e_str (nomark _)) (e_lc (own := [("word", 2)]) S.nd (blkOk_by (by rfl)) (i_seq (e_split (e_var 0) e_str)) (fun _ _ _ _ _ => (g_name (i := 2) S.nd)) (fun _ _ _ _ _ => t_yes) (fun _ _ _ _ _ => (e_call (ok_8 T) (hr.mono (by decide)) T.g_8 T.k_8 T.b_8 passL (a_cons (e_var 2) a_nil)))) (e_lst a_nil))) (s_cons (s_if (t_cmp (r_in (hu65 hr)) e_non (e_var 1) rfl) (s_one s_never) s_nil) (s_one (s_ret (e_var 1))))))).wrap
theorem sc_10 : FnScope ["values", "sign", "value"] ["values", "sign"] (defScope (top 24)) := ⟨rfl, rfl, rfl, by decide +kernel, rfl, by decide +kernel, by decide +kernel⟩
/-- format_integers -/
theorem ok_10 (T : Txt K mg Γ A D B) : FnM Γ P w K mg base 1 (A 10) (D 10) ["values", "sign"] m_format_integers :=
  have S := sc_10
  (fn_ok (N := ["values", "sign", "value"]) (b := b_format_integers) T.F_10 S fun cdv AA outer s H E hr => (s_one (s_ret (e_join (e_var 1) (e_lc (own := [("value", 2)]) S.nd (blkOk_by (by rfl)) (i_seq (e_var 0)) (fun _ _ _ _ _ => (g_name (i := 2) S.nd)) (fun _ _ _ _ _ => t_yes) (fun _ _ _ _ _ => (e_callT c_str T.n_str (a_cons (e_var 2) a_nil)))))))).wrap
theorem sc_9 : FnScope ["way", "draw"] ["way"] (defScope (top 29)) := ⟨rfl, rfl, rfl, by decide +kernel, rfl, by decide +kernel, by decide +kernel⟩
/-- format_way -/
theorem ok_9 (T : Txt K mg Γ A D B) : FnM Γ P w K mg base 2 (A 9) (D 9) ["way"] m_format_way :=
  have S := sc_9
  (fn_ok (N := ["way", "draw"]) (b := b_format_way) T.F_9 S fun cdv AA outer s H E hr => (s_one (s_ret (e_join e_str (e_lc (own := [("draw", 1)]) S.nd (blkOk_by (by rfl)) (i_seq (e_var 0)) (fun _ _ _ _ _ => (g_name (i := 1) S.nd)) (fun _ _ _ _ _ => t_yes) (fun _ _ _ _ _ => (e_call (ok_10 T) (hr.mono (by decide)) T.g_10 T.k_10 T.b_10 passL (a_cons (e_var 1) (a_cons e_str a_nil))))))))).wrap
theorem sc_11 : FnScope ["_law_pool_here", "_law_many", "_law_digit"] ["_law_pool_here", "_law_many"] (defScope (top 34)) := ⟨rfl, rfl, rfl, by decide +kernel, rfl, by decide +kernel, by decide +kernel⟩
/-- _law_draw -/
theorem ok_11 (T : Txt K mg Γ A D B) : FnM Γ P w K mg base 1 (A 11) (D 11) ["_law_pool_here", "_law_many"] m_law_draw :=
  have S := sc_11
  (fn_ok (N := ["_law_pool_here", "_law_many", "_law_digit"]) (b := b_law_draw) T.F_11 S fun cdv AA outer s H E hr => (s_cons (s_if (t_cmp r_gt (e_ix (e_var 0) e_int) e_int (nomark _)) (s_cons (s_set (i := 2) S.nd (e_op r_mod (e_ix (e_var 0) e_int) (e_var 1))) (s_cons (s_asg (vs := []) (e_op r_div (e_ix (e_var 0) e_int) (e_var 1)) (g_sub (e_var 0) e_int)) (s_one (s_ret (e_var 2))))) s_nil) (s_cons (s_asg (vs := []) (e_op r_mod (e_op r_add (e_op r_mul (e_ix (e_var 0) e_int) e_int) e_int) e_int) (g_sub (e_var 0) e_int)) (s_one (s_ret (e_op r_mod (e_op r_div (e_op r_mod (e_op r_mul (e_ix (e_var 0) e_int) (e_ix (e_var 0) e_int)) e_int) e_int) (e_var 1)))))))
theorem sc_13 : FnScope ["self"] ["self"] (defScope (inClass (top 19) 4)) := ⟨rfl, rfl, rfl, by decide +kernel, rfl, by decide +kernel, by decide +kernel⟩
/-- Jar.counts -/
theorem ok_13 (T : Txt K mg Γ A D B) : FnM Γ P w K mg base 1 (A 13) (D 13) ["self"] m_Jar_counts :=
  have S := sc_13
  (fn_ok (N := ["self"]) (b := b_Jar_counts) T.F_13 S fun cdv AA outer s H E hr => (s_one (s_ret (e_callT c_list T.n_list (a_cons (e_fld [0] T.fl_own_counts_0 (e_var 0)) a_nil))))).wrap
theorem sc_12 : FnScope ["jar"] ["jar"] (defScope (top 25)) := ⟨rfl, rfl, rfl, by decide +kernel, rfl, by decide +kernel, by decide +kernel⟩
/-- format_jar -/
theorem ok_12 (T : Txt K mg Γ A D B) : FnM Γ P w K mg base 2 (A 12) (D 12) ["jar"] m_format_jar :=
  have S := sc_12
  (fn_ok (N := ["jar"]) (b := b_format_jar) T.F_12 S fun cdv AA outer s H E hr => (s_one (s_ret (e_call (ok_10 T) (hr.mono (by decide)) T.g_10 T.k_10 T.b_10 px (a_cons (e_meth0 (c := 0) T.cl_0 T.me_13 (ok_13 T) (hr.mono (by decide)) T.b_13 px (e_var 0)) (a_cons e_str a_nil)))))).wrap
theorem sc_14 : FnScope ["_law_pool_here", "_law_items"] ["_law_pool_here", "_law_items"] (defScope (top 35)) := ⟨rfl, rfl, rfl, by decide +kernel, rfl, by decide +kernel, by decide +kernel⟩
/-- _law_choose -/
theorem ok_14 (T : Txt K mg Γ A D B) : FnM Γ P w K mg base 2 (A 14) (D 14) ["_law_pool_here", "_law_items"] m_law_choose :=
  have S := sc_14
  (fn_ok (N := ["_law_pool_here", "_law_items"]) (b := b_law_choose) T.F_14 S fun cdv AA outer s H E hr => (s_one (s_ret (e_ix (e_var 1) (e_call (ok_11 T) (hr.mono (by decide)) T.g_11 T.k_11 T.b_11 px (a_cons (e_var 0) (a_cons (e_callB c_len T.n_len (a_cons (e_var 1) a_nil)) a_nil)))))))
theorem sc_18 : FnScope ["size", "a", "b"] ["size"] (defScope (top 14)) := ⟨rfl, rfl, rfl, by decide +kernel, rfl, by decide +kernel, by decide +kernel⟩
/-- places -/
theorem ok_18 (T : Txt K mg Γ A D B) : FnM Γ P w K mg base 1 (A 18) (D 18) ["size"] m_places :=
  have S := sc_18
  (fn_ok (N := ["size", "a", "b"]) (b := b_places) T.F_18 S fun cdv AA outer s H E hr => (s_one (s_ret (e_lc2 (own := [("a", 1), ("b", 2)]) (vs1 := [2]) S.nd (blkOk_by (by rfl)) (i_rng1 T.n_range (a_cons (e_var 0) a_nil)) (fun _ _ _ _ _ => (g_name (i := 1) S.nd)) (fun _ _ _ _ _ => t_yes) (fun _ _ _ _ _ => (i_rng1 T.n_range (a_cons (e_var 0) a_nil))) (fun _ _ _ _ _ => (g_name (i := 2) S.nd)) (fun _ _ _ _ _ => t_yes) (fun _ _ _ _ _ => (e_tup (a_cons (e_var 1) (a_cons (e_var 2) a_nil)))))))).wrap
theorem sc_19 : FnScope ["size", "value"] ["size", "value"] (defScope (top 12)) := ⟨rfl, rfl, rfl, by decide +kernel, rfl, by decide +kernel, by decide +kernel⟩
/-- is_colour -/
theorem ok_19 (T : Txt K mg Γ A D B) : FnM Γ P w K mg base 2 (A 19) (D 19) ["size", "value"] m_is_colour :=
  have S := sc_19
  (fn_ok (N := ["size", "value"]) (b := b_is_colour) T.F_19 S fun cdv AA outer s H E hr => (s_one (s_ret (e_and (e_call (ok_3 T) (hr.mono (by decide)) T.g_3 T.k_3 T.b_3 px (a_cons (e_var 1) a_nil)) (e_one (e_chain r_le r_lt e_int (e_var 1) (e_var 0))))))).wrap
theorem sc_17 : FnScope ["rows", "a", "b"] ["rows"] (defScope (top 15)) := ⟨rfl, rfl, rfl, by decide +kernel, rfl, by decide +kernel, by decide +kernel⟩
/-- first_wrong_place -/
theorem ok_17 (T : Txt K mg Γ A D B) : FnM Γ P w K mg base 3 (A 17) (D 17) ["rows"] m_first_wrong_place :=
  have S := sc_17
  (fn_ok (N := ["rows", "a", "b"]) (b := b_first_wrong_place) T.F_17 S fun cdv AA outer s H E hr => (s_cons (s_for (vs := [1, 2]) po (i_seq (e_call (ok_18 T) (hr.mono (by decide)) T.g_18 T.k_18 T.b_18 px (a_cons (e_callB c_len T.n_len (a_cons (e_var 0) a_nil)) a_nil))) (g_tup (gs_cons (g_name (i := 1) S.nd) (gs_cons (g_name (i := 2) S.nd) gs_nil))) (s_one (s_if (w_or (t_not (t_tru (e_call (ok_19 T) (hr.mono (by decide)) T.g_19 T.k_19 T.b_19 px (a_cons (e_callB c_len T.n_len (a_cons (e_var 0) a_nil)) (a_cons (e_ix (e_ix (e_var 0) (e_var 1)) (e_var 2)) a_nil))))) (w_or1 (w_and (t_cmp r_lt (e_var 2) (e_var 1) (nomark _)) (w_and1 (t_cmp (r_ne (hu64 hr)) (e_ix (e_ix (e_var 0) (e_var 2)) (e_var 1)) (e_ix (e_ix (e_var 0) (e_var 1)) (e_var 2)) (nomark _)))).pt)).pt (s_one (s_ret (e_tup (a_cons (e_var 1) (a_cons (e_var 2) a_nil))))) s_nil))) (s_one (s_ret e_non)))).wrap
theorem sc_20 : FnScope ["rows", "row"] ["rows"] (defScope (top 13)) := ⟨rfl, rfl, rfl, by decide +kernel, rfl, by decide +kernel, by decide +kernel⟩
/-- has_shape -/
theorem ok_20 (T : Txt K mg Γ A D B) : FnM Γ P w K mg base 1 (A 20) (D 20) ["rows"] m_has_shape :=
  have S := sc_20
  (fn_ok (N := ["rows", "row"]) (b := b_has_shape) T.F_20 S fun cdv AA outer s H E hr => (s_cons (s_if (w_or (t_not (t_tru (e_isi2 [] (fun _ h => nomatch h) (isf_b (by simp)) (isf_b (by simp)) (e_var 0) (pe_bltn (u := .type "list") (by rfl) T.n_list (by decide +kernel) (by rfl)) (pe_bltn (u := .type "tuple") (by rfl) T.n_tuple (by decide +kernel) (by rfl)) T.n_isinstance))) (w_or1 (t_not (t_chain r_le r_le e_int (e_callB c_len T.n_len (a_cons (e_var 0) a_nil)) (e_globI (i := 8) T.gc_MAX_COLOURS.choose_spec))))).pt (s_one (s_ret e_bl)) s_nil) (s_one (s_ret (e_callB (c_all rfl) T.n_all (a_cons (e_lc (own := [("row", 1)]) S.nd (blkOk_by (by rfl)) (i_seq (e_var 0)) (fun _ _ _ _ _ => (g_name (i := 1) S.nd)) (fun _ _ _ _ _ => t_yes) (fun _ _ _ _ _ => (e_and (e_isi2 [] (fun _ h => nomatch h) (isf_b (by simp)) (isf_b (by simp)) (e_var 1) (pe_bltn (u := .type "list") (by rfl) T.n_list (by decide +kernel) (by rfl)) (pe_bltn (u := .type "tuple") (by rfl) T.n_tuple (by decide +kernel) (by rfl)) T.n_isinstance) (e_one (e_cmp (r_eq (hu64 hr)) (e_callB c_len T.n_len (a_cons (e_var 1) a_nil)) (e_callB c_len T.n_len (a_cons (e_var 0) a_nil)) (nomark _)))))) a_nil)))))).wrap
theorem sc_16 : FnScope ["self", "rows", "place", "row"] ["self", "rows"] (defScope (inClass (top 16) 0)) := ⟨rfl, rfl, rfl, by decide +kernel, rfl, by decide +kernel, by decide +kernel⟩
/-- Table.__init__ -/
theorem ok_16 (T : Txt K mg Γ A D B) : FnM Γ P w K mg base 4 (A 16) (D 16) ["self", "rows"] m_Table__init :=
  have S := sc_16
  (fn_ok (N := ["self", "rows", "place", "row"]) (b := b_Table__init) T.F_16 S fun cdv AA outer s H E hr => (s_cons (s_if (t_not (t_tru (e_call (ok_20 T) (hr.mono (by decide)) T.g_20 T.k_20 T.b_20 px (a_cons (e_var 1) a_nil)))) (s_one s_never) s_nil) (s_cons (s_set (i := 2) S.nd (e_call (ok_17 T) (hr.mono (by decide)) T.g_17 T.k_17 T.b_17 px (a_cons (e_var 1) a_nil))) (s_cons (s_if (t_notN (e_var 2)) (s_one s_never) s_nil) (s_one (s_fld [1] T.fl_own_rows_1 (e_var 0) (e_lc (own := [("row", 3)]) S.nd (blkOk_by (by rfl)) (i_seq (e_var 1)) (fun _ _ _ _ _ => (g_name (i := 3) S.nd)) (fun _ _ _ _ _ => t_yes) (fun _ _ _ _ _ => (e_callT c_list T.n_list (a_cons (e_var 3) a_nil))))))))))
theorem sc_15 : FnScope ["text", "rows", "wrong", "row", "index"] ["text"] (defScope (top 28)) := ⟨rfl, rfl, rfl, by decide +kernel, rfl, by decide +kernel, by decide +kernel⟩
/-- parse_table -/
theorem ok_15 (T : Txt K mg Γ A D B) : FnM Γ P w K mg base 6 (A 15) (D 15) ["text"] m_parse_table :=
  have S := sc_15
  (fn_ok (N := ["text", "rows", "wrong", "row", "index"]) (b := b_parse_table) T.F_15 S fun cdv AA outer s H E hr => (s_cons (s_if (t_not (t_tru (e_isi [] (fun _ h => nomatch h) (isf_b (by simp)) (e_var 0) (.ty "str") (pe_bltn (u := .type "str") (by rfl) T.n_str (by decide +kernel) (by rfl)) T.n_isinstance))) (s_one s_never) s_nil) (s_cons (s_setLc (i := 1) (own := [("row", 3)]) S.nd (blkOk_by (by rfl)) (i_seq (e_split (e_var 0) e_str)) (fun _ _ _ _ _ => (g_name (i := 3) S.nd)) (fun _ _ _ _ _ => t_yes) (fun _ _ _ _ _ => (e_call (ok_4 T) (hr.mono (by decide)) T.g_4 T.k_4 T.b_4 passL (a_cons (e_var 3) (a_cons e_str a_nil)))) (sw_true rfl rfl rfl (by decide +kernel))) (s_cons (s_setLc (i := 2) (own := [("index", 4), ("row", 3)]) S.nd (blkOk_by (by rfl)) (i_enum T.n_enumerate (e_var 1)) (fun _ _ _ _ _ => (g_tup (gs_cons (g_name (i := 4) S.nd) (gs_cons (g_name (i := 3) S.nd) gs_nil)))) (fun _ _ _ _ _ => t_one (t_cmp (r_in (hu65 hr)) e_non (e_var 3) rfl)) (fun _ _ _ _ _ => (e_var 4)) (sw_true rfl rfl rfl (by decide +kernel))) (s_cons (s_if (t_tru (e_var 2)) (s_one s_never) s_nil) (s_one (s_try0 (c := .ref (Γ.cls 2)) ⟨rfl, by decide, .inl T.mg_2⟩ (fun _ _ _ => (s_one (s_ret (e_makeF (c := 1) T.mk_1 (ok_16 T) (hr.mono (by decide)) T.mg_1 T.b_16 passL (a_cons (e_var 1) a_nil)))))))))))).wrap
theorem sc_21 : FnScope ["self", "other"] ["self", "other"] (defScope (inClass (top 16) 10)) := ⟨rfl, rfl, rfl, by decide +kernel, rfl, by decide +kernel, by decide +kernel⟩
/-- Table.__eq__ -/
theorem ok_21 (T : Txt K mg Γ A D B) : FnM Γ P w K mg base 1 (A 21) (D 21) ["self", "other"] m_Table__eq :=
  have S := sc_21
  (fn_ok (N := ["self", "other"]) (b := b_Table__eq) T.F_21 S fun cdv AA outer s H E hr => (s_one (s_ret (e_and (e_isi [1] (fun _ h => (List.mem_singleton.mp h) ▸ T.if_1) (isf_c T.ic_1) (e_var 1) (.own _) (pe_glob (by rfl) T.mg_1 rfl) T.n_isinstance) (e_one (e_cmp (r_eq (hu64 hr)) (e_fld [1] T.fl_own_rows_1 (e_var 0)) (e_fld [1] T.fl_own_rows_1 (e_var 1)) (nomark _))))))).wrap
theorem sc_23 : FnScope ["self", "row"] ["self"] (defScope (inClass (top 16) 2)) := ⟨rfl, rfl, rfl, by decide +kernel, rfl, by decide +kernel, by decide +kernel⟩
/-- Table.rows -/
theorem ok_23 (T : Txt K mg Γ A D B) : FnM Γ P w K mg base 1 (A 23) (D 23) ["self"] m_Table_rows :=
  have S := sc_23
  (fn_ok (N := ["self", "row"]) (b := b_Table_rows) T.F_23 S fun cdv AA outer s H E hr => (s_one (s_ret (e_lc (own := [("row", 1)]) S.nd (blkOk_by (by rfl)) (i_seq (e_fld [1] T.fl_own_rows_1 (e_var 0))) (fun _ _ _ _ _ => (g_name (i := 1) S.nd)) (fun _ _ _ _ _ => t_yes) (fun _ _ _ _ _ => (e_callT c_list T.n_list (a_cons (e_var 1) a_nil))))))).wrap
theorem sc_22 : FnScope ["table", "row"] ["table"] (defScope (top 27)) := ⟨rfl, rfl, rfl, by decide +kernel, rfl, by decide +kernel, by decide +kernel⟩
/-- format_table -/
theorem ok_22 (T : Txt K mg Γ A D B) : FnM Γ P w K mg base 2 (A 22) (D 22) ["table"] m_format_table :=
  have S := sc_22
  (fn_ok (N := ["table", "row"]) (b := b_format_table) T.F_22 S fun cdv AA outer s H E hr => (s_one (s_ret (e_join e_str (e_lc (own := [("row", 1)]) S.nd (blkOk_by (by rfl)) (i_seq (e_meth0 (c := 1) T.cl_1 T.me_23 (ok_23 T) (hr.mono (by decide)) T.b_23 px (e_var 0))) (fun _ _ _ _ _ => (g_name (i := 1) S.nd)) (fun _ _ _ _ _ => t_yes) (fun _ _ _ _ _ => (e_call (ok_10 T) (hr.mono (by decide)) T.g_10 T.k_10 T.b_10 passL (a_cons (e_var 1) (a_cons e_str a_nil))))))))).wrap
theorem sc_25 : FnScope ["_law_pool_here", "_law_size", "_law_rows_here", "_law_a", "_law_b", "_law_colour"] ["_law_pool_here", "_law_size"] (defScope (top 36)) := ⟨rfl, rfl, rfl, by decide +kernel, rfl, by decide +kernel, by decide +kernel⟩
/-- _law_rows -/
theorem ok_25 (T : Txt K mg Γ A D B) : FnM Γ P w K mg base 2 (A 25) (D 25) ["_law_pool_here", "_law_size"] m_law_rows :=
  have S := sc_25
  (fn_ok (N := ["_law_pool_here", "_law_size", "_law_rows_here", "_law_a", "_law_b", "_law_colour"]) (b := b_law_rows) T.F_25 S fun cdv AA outer s H E hr => (s_cons (s_setLcC (i := 2) (own := [("_law_a", 3)]) S.nd (blkOk_by (by rfl)) (i_rng1 T.n_range (a_cons (e_var 1) a_nil)) (fun _ _ _ _ _ => (g_name (i := 3) S.nd)) (fun _ _ _ _ _ => t_yes) (fun _ _ _ _ _ => (e_op r_mulC (e_lst (a_cons e_int a_nil)) (e_var 1))) (sw_true rfl rfl rfl (by decide +kernel))) (s_cons (s_for (vs := [3]) po (i_rng1 T.n_range (a_cons (e_var 1) a_nil)) (g_name (i := 3) S.nd) (s_one (s_for (vs := [4]) po (i_rng2 T.n_range (a_cons (e_var 3) (a_cons (e_var 1) a_nil))) (g_name (i := 4) S.nd) (s_cons (s_set (i := 5) S.nd (e_call (ok_11 T) (hr.mono (by decide)) T.g_11 T.k_11 T.b_11 px (a_cons (e_var 0) (a_cons (e_var 1) a_nil)))) (s_cons (s_asg (vs := []) (e_var 5) (g_sub (e_ix (e_var 2) (e_var 3)) (e_var 4))) (s_one (s_asg (vs := []) (e_var 5) (g_sub (e_ix (e_var 2) (e_var 4)) (e_var 3))))))))) (ss_frz 2 (s_one (s_ret (e_var 2)))))))
theorem sc_24 : FnScope ["_law_pool_here", "_law_size", "_law_way", "_law_a", "_law_b"] ["_law_pool_here", "_law_size"] (defScope (top 37)) := ⟨rfl, rfl, rfl, by decide +kernel, rfl, by decide +kernel, by decide +kernel⟩
/-- _law_kind -/
theorem ok_24 (T : Txt K mg Γ A D B) : FnM Γ P w K mg base 3 (A 24) (D 24) ["_law_pool_here", "_law_size"] m_law_kind :=
  have S := sc_24
  (fn_ok (N := ["_law_pool_here", "_law_size", "_law_way", "_law_a", "_law_b"]) (b := b_law_kind) T.F_24 S fun cdv AA outer s H E hr => (s_cons (s_set (i := 2) S.nd (e_call (ok_11 T) (hr.mono (by decide)) T.g_11 T.k_11 T.b_11 px (a_cons (e_var 0) (a_cons e_int a_nil)))) (s_cons (s_if (t_cmp (r_eq (hu64 hr)) (e_var 2) e_int (nomark _)) (s_one (s_ret (e_lc (own := [("_law_a", 3)]) S.nd (blkOk_by (by rfl)) (i_rng1 T.n_range (a_cons (e_var 1) a_nil)) (fun _ _ _ _ _ => (g_name (i := 3) S.nd)) (fun _ _ _ _ _ => t_yes) (fun _ _ _ _ _ => (e_lc (own := [("_law_b", 4)]) S.nd (blkOk_by (by rfl)) (i_rng1 T.n_range (a_cons (e_var 1) a_nil)) (fun _ _ _ _ _ => (g_name (i := 4) S.nd)) (fun _ _ _ _ _ => t_yes) (fun _ _ _ _ _ => (e_op r_mod (e_op r_add (e_var 3) (e_var 4)) (e_var 1)))))))) s_nil) (s_cons (s_if (t_cmp (r_eq (hu64 hr)) (e_var 2) e_int (nomark _)) (s_one (s_ret (e_lc (own := [("_law_a", 3)]) S.nd (blkOk_by (by rfl)) (i_rng1 T.n_range (a_cons (e_var 1) a_nil)) (fun _ _ _ _ _ => (g_name (i := 3) S.nd)) (fun _ _ _ _ _ => t_yes) (fun _ _ _ _ _ => (e_lc (own := [("_law_b", 4)]) S.nd (blkOk_by (by rfl)) (i_rng1 T.n_range (a_cons (e_var 1) a_nil)) (fun _ _ _ _ _ => (g_name (i := 4) S.nd)) (fun _ _ _ _ _ => t_yes) (fun _ _ _ _ _ => (e_callB (c_max2 rfl) T.n_max (a_cons (e_var 3) (a_cons (e_var 4) a_nil))))))))) s_nil) (s_cons (s_if (t_cmp (r_eq (hu64 hr)) (e_var 2) e_int (nomark _)) (s_one (s_ret (e_lc (own := [("_law_a", 3)]) S.nd (blkOk_by (by rfl)) (i_rng1 T.n_range (a_cons (e_var 1) a_nil)) (fun _ _ _ _ _ => (g_name (i := 3) S.nd)) (fun _ _ _ _ _ => t_yes) (fun _ _ _ _ _ => (e_lc (own := [("_law_b", 4)]) S.nd (blkOk_by (by rfl)) (i_rng1 T.n_range (a_cons (e_var 1) a_nil)) (fun _ _ _ _ _ => (g_name (i := 4) S.nd)) (fun _ _ _ _ _ => t_yes) (fun _ _ _ _ _ => (e_callB (c_min2 rfl) T.n_min (a_cons (e_op r_add (e_var 3) (e_var 4)) (a_cons (e_op r_sub (e_var 1) e_int) a_nil))))))))) s_nil) (s_cons (s_if (t_cmp (r_eq (hu64 hr)) (e_var 2) e_int (nomark _)) (s_one (s_ret (e_lc (own := [("_law_a", 3)]) S.nd (blkOk_by (by rfl)) (i_rng1 T.n_range (a_cons (e_var 1) a_nil)) (fun _ _ _ _ _ => (g_name (i := 3) S.nd)) (fun _ _ _ _ _ => t_yes) (fun _ _ _ _ _ => (e_lc (own := [("_law_b", 4)]) S.nd (blkOk_by (by rfl)) (i_rng1 T.n_range (a_cons (e_var 1) a_nil)) (fun _ _ _ _ _ => (g_name (i := 4) S.nd)) (fun _ _ _ _ _ => t_yes) (fun _ _ _ _ _ => (e_op r_mod (e_op r_mul (e_var 3) (e_var 4)) (e_var 1)))))))) s_nil) (s_one (s_ret (e_call (ok_25 T) (hr.mono (by decide)) T.g_25 T.k_25 T.b_25 px (a_cons (e_var 0) (a_cons (e_var 1) a_nil)))))))))))
theorem sc_26 : FnScope ["_law_script", "_law_k", "_law_cell", "_law_seed"] ["_law_script", "_law_k"] (defScope (top 33)) := ⟨rfl, rfl, rfl, by decide +kernel, rfl, by decide +kernel, by decide +kernel⟩
/-- _law_pool -/
theorem ok_26 (T : Txt K mg Γ A D B) : FnM Γ P w K mg base 1 (A 26) (D 26) ["_law_script", "_law_k"] m_law_pool :=
  have S := sc_26
  (fn_ok (N := ["_law_script", "_law_k", "_law_cell", "_law_seed"]) (b := b_law_pool) T.F_26 S fun cdv AA outer s H E hr => (s_cons (s_set (i := 2) S.nd e_int) (s_cons (s_if (t_cmp r_lt (e_var 1) (e_callB c_len T.n_len (a_cons (e_var 0) a_nil)) (nomark _)) (s_one (s_set (i := 2) S.nd (e_ix (e_var 0) (e_var 1)))) s_nil) (s_cons (s_set (i := 3) S.nd (e_op r_mod (e_op r_pow (e_op r_add (e_op r_add (e_op r_mod (e_var 2) e_int) (e_op r_mul (e_op r_mul e_int (e_var 1)) (e_var 1))) e_int) e_int) e_int)) (s_cons (s_if (t_cmp r_lt (e_var 2) (e_op r_pow e_int e_int) (nomark _)) (s_one (s_set (i := 2) S.nd e_int)) s_nil) (s_one (s_ret (e_lstC (a_cons (e_var 2) (a_cons (e_var 3) a_nil))))))))))
theorem sc_27 : FnScope ["_law_script", "_law_k", "_law_pool_here", "_law_size", "_law_rows_here", "_law_text", "_law_counts", "_law_way", "_law_turn", "_law_colour", "_law_row", "_law_count", "_law_a", "_law_b"] ["_law_script"] (defScope (top 38)) := ⟨rfl, rfl, rfl, by decide +kernel, rfl, by decide +kernel, by decide +kernel⟩
/-- law -/
theorem ok_27 (T : Txt K mg Γ A D B) : FnM Γ P w K mg base 7 (A 27) (D 27) ["_law_script"] m_law :=
  have S := sc_27
  (fn_ok (N := ["_law_script", "_law_k", "_law_pool_here", "_law_size", "_law_rows_here", "_law_text", "_law_counts", "_law_way", "_law_turn", "_law_colour", "_law_row", "_law_count", "_law_a", "_law_b"]) (b := b_law) T.F_27 S fun cdv AA outer s H E hr => (s_cons (s_for (vs := [1]) po (i_rng1 T.n_range (a_cons (e_callB (c_max2 rfl) T.n_max (a_cons e_int (a_cons (e_callB (c_min2 rfl) T.n_min (a_cons (e_callB c_len T.n_len (a_cons (e_var 0) a_nil)) (a_cons e_int a_nil))) a_nil))) a_nil)) (g_name (i := 1) S.nd) (s_cons (s_set (i := 2) S.nd (e_call (ok_26 T) (hr.mono (by decide)) T.g_26 T.k_26 T.b_26 px (a_cons (e_var 0) (a_cons (e_var 1) a_nil)))) (s_cons (s_set (i := 3) S.nd (e_op r_add e_int (e_call (ok_11 T) (hr.mono (by decide)) T.g_11 T.k_11 T.b_11 px (a_cons (e_var 2) (a_cons e_int a_nil))))) (s_cons (s_set (i := 4) S.nd (e_call (ok_24 T) (hr.mono (by decide)) T.g_24 T.k_24 T.b_24 px (a_cons (e_var 2) (a_cons (e_var 3) a_nil)))) (s_cons (s_set (i := 5) S.nd (e_join e_str (e_lc (own := [("_law_row", 10)]) S.nd (blkOk_by (by rfl)) (i_seq (e_var 4)) (fun _ _ _ _ _ => (g_name (i := 10) S.nd)) (fun _ _ _ _ _ => t_yes) (fun _ _ _ _ _ => (e_join e_str (e_lc (own := [("_law_colour", 9)]) S.nd (blkOk_by (by rfl)) (i_seq (e_var 10)) (fun _ _ _ _ _ => (g_name (i := 9) S.nd)) (fun _ _ _ _ _ => t_yes) (fun _ _ _ _ _ => (e_callT c_str T.n_str (a_cons (e_var 9) a_nil))))))))) (s_cons (s_if (w_or (t_cmp (r_ne (hu64 hr)) (e_call (ok_22 T) (hr.mono (by decide)) T.g_22 T.k_22 T.b_22 px (a_cons (e_makeF (c := 1) T.mk_1 (ok_16 T) (hr.mono (by decide)) T.mg_1 T.b_16 px (a_cons (e_var 4) a_nil)) a_nil)) (e_var 5) (nomark _)) (w_or1 (t_cmp (r_orOwn (r_ownNe (ok_21 T) (hr.mono (by decide)) T.b_21 px T.eq_1 T.fn_21 T.ne_1 T.ob_1) (r_ne (hu64 hr))) (e_call (ok_15 T) (hr.mono (by decide)) T.g_15 T.k_15 T.b_15 px (a_cons (e_var 5) a_nil)) (e_makeF (c := 1) T.mk_1 (ok_16 T) (hr.mono (by decide)) T.mg_1 T.b_16 px (a_cons (e_var 4) a_nil)) (nomark _)))).pt (s_one (s_ret e_bl)) s_nil) (s_cons (s_setLc (i := 6) (own := [("_law_colour", 9)]) S.nd (blkOk_by (by rfl)) (i_rng1 T.n_range (a_cons (e_var 3) a_nil)) (fun _ _ _ _ _ => (g_name (i := 9) S.nd)) (fun _ _ _ _ _ => t_yes) (fun _ _ _ _ _ => (e_call (ok_14 T) (hr.mono (by decide)) T.g_14 T.k_14 T.b_14 passL (a_cons (e_var 2) (a_cons (e_lst (a_cons e_int (a_cons e_int (a_cons (e_op r_add (e_op r_pow e_int e_int) (e_call (ok_11 T) (hr.mono (by decide)) T.g_11 T.k_11 T.b_11 passL (a_cons (e_var 2) (a_cons e_int a_nil)))) (a_cons (e_call (ok_11 T) (hr.mono (by decide)) T.g_11 T.k_11 T.b_11 passL (a_cons (e_var 2) (a_cons (e_op r_pow e_int e_int) a_nil))) a_nil))))) a_nil)))) (sw_true rfl rfl rfl (by decide +kernel))) (s_cons (s_set (i := 5) S.nd (e_join e_str (e_lc (own := [("_law_count", 11)]) S.nd (blkOk_by (by rfl)) (i_seq (e_var 6)) (fun _ _ _ _ _ => (g_name (i := 11) S.nd)) (fun _ _ _ _ _ => t_yes) (fun _ _ _ _ _ => (e_callT c_str T.n_str (a_cons (e_var 11) a_nil)))))) (s_cons (s_if (w_or (t_cmp (r_ne (hu64 hr)) (e_call (ok_12 T) (hr.mono (by decide)) T.g_12 T.k_12 T.b_12 px (a_cons (e_makeF (c := 0) T.mk_0 (ok_1 T) (hr.mono (by decide)) T.mg_0 T.b_1 px (a_cons (e_var 6) a_nil)) a_nil)) (e_var 5) (nomark _)) (w_or1 (t_cmp (r_orOwn (r_ownNe (ok_6 T) (hr.mono (by decide)) T.b_6 px T.eq_0 T.fn_6 T.ne_0 T.ob_0) (r_ne (hu64 hr))) (e_call (ok_0 T) (hr.mono (by decide)) T.g_0 T.k_0 T.b_0 px (a_cons (e_var 5) a_nil)) (e_makeF (c := 0) T.mk_0 (ok_1 T) (hr.mono (by decide)) T.mg_0 T.b_1 px (a_cons (e_var 6) a_nil)) (nomark _)))).pt (s_one (s_ret e_bl)) s_nil) (s_cons (s_set (i := 7) S.nd (e_lstC a_nil)) (s_cons (s_for (vs := [8]) po (i_rng1 T.n_range (a_cons (e_call (ok_11 T) (hr.mono (by decide)) T.g_11 T.k_11 T.b_11 px (a_cons (e_var 2) (a_cons e_int a_nil))) a_nil)) (g_name (i := 8) S.nd) (s_one (s_expr (e_lmeth PySem.F.slot_list_append (by first | rfl | kernel_rfl) m_append (e_var 7) (a_cons (e_callT c_tuple T.n_tuple (a_cons (e_callB c_sortI T.n_sorted (a_cons (e_lst (a_cons (e_call (ok_11 T) (hr.mono (by decide)) T.g_11 T.k_11 T.b_11 px (a_cons (e_var 2) (a_cons (e_var 3) a_nil))) (a_cons (e_call (ok_11 T) (hr.mono (by decide)) T.g_11 T.k_11 T.b_11 px (a_cons (e_var 2) (a_cons e_int a_nil))) a_nil))) a_nil)) a_nil)) a_nil))))) (ss_frz 7 (s_cons (s_set (i := 5) S.nd (e_join e_str (e_lc (own := [("_law_a", 12), ("_law_b", 13)]) S.nd (blkOk_by (by rfl)) (i_seq (e_var 7)) (fun _ _ _ _ _ => (g_tup (gs_cons (g_name (i := 12) S.nd) (gs_cons (g_name (i := 13) S.nd) gs_nil)))) (fun _ _ _ _ _ => t_yes) (fun _ _ _ _ _ => (e_op r_add (e_op r_add (e_callT c_str T.n_str (a_cons (e_var 12) a_nil)) e_str) (e_callT c_str T.n_str (a_cons (e_var 13) a_nil))))))) (s_one (s_if (w_or (t_cmp (r_ne (hu64 hr)) (e_call (ok_9 T) (hr.mono (by decide)) T.g_9 T.k_9 T.b_9 px (a_cons (e_var 7) a_nil)) (e_var 5) (nomark _)) (w_or1 (t_cmp (r_ne (hu64 hr)) (e_call (ok_7 T) (hr.mono (by decide)) T.g_7 T.k_7 T.b_7 px (a_cons (e_var 5) a_nil)) (e_var 7) (nomark _)))).pt (s_one (s_ret e_bl)) s_nil))))))))))))))) (s_one (s_ret (e_and (e_cmp (r_eq (hu64 hr)) (e_call (ok_9 T) (hr.mono (by decide)) T.g_9 T.k_9 T.b_9 px (a_cons (e_lst a_nil) a_nil)) e_str (nomark _)) (e_and (e_cmp (r_eq (hu64 hr)) (e_call (ok_7 T) (hr.mono (by decide)) T.g_7 T.k_7 T.b_7 px (a_cons e_str a_nil)) (e_lst a_nil) (nomark _)) (e_one (e_cmp (r_orOwn (r_ownEq (ok_6 T) (hr.mono (by decide)) T.b_6 px T.eq_0 T.fn_6) (r_eq (hu64 hr))) (e_call (ok_0 T) (hr.mono (by decide)) T.g_0 T.k_0 T.b_0 px (a_cons e_str a_nil)) (e_makeF (c := 0) T.mk_0 (ok_1 T) (hr.mono (by decide)) T.mg_0 T.b_1 px (a_cons (e_lst (a_cons e_int a_nil)) a_nil)) (nomark _)))))))))
end
/-! what the top has written -/
theorem all_mk {l : PySem.W.OpenLaw} {w : World} (plain : ∀ ns : List Int, ns.length ≤ 63 → ∃ st, m_law [.d (.lst (ns.map .int))] [] = .ok (.d (.bl true)) st)
    {K : PySem.W.Frag} {h : Heap} {mg : Str → Option Value} {fa : Addr} (X : K.In h) (G : h.Ns mainGlobals mg) (hfa : mg "law" = some (.ref fa)) (nl : noLists K = true)
    {f0 f1 f2 f3 f4 f5 f6 f7 f8 f9 f10 f11 f12 f13 f14 f15 f16 f17 f18 f19 f20 f21 f22 f23 f24 f25 f26 f27 : Addr}
    {C0 C1 C2 : Addr}
    {od0 an0 od1 an1 od2 an2 od3 an3 od4 an4 od5 an5 od6 an6 od7 an7 od8 an8 od9 an9 od10 an10 od11 an11 od12 an12 od13 an13 od14 an14 od15 an15 od16 an16 od17 an17 od18 an18 od19 an19 od20 an20 od21 an21 od22 an22 od23 an23 od24 an24 od25 an25 od26 an26 od27 an27 : Option Addr} {sl0 sl1 sl2 sl3 sl4 sl5 sl6 sl7 sl8 sl9 sl10 sl11 sl12 sl13 sl14 sl15 sl16 sl17 sl18 sl19 sl20 sl21 sl22 sl23 sl24 sl25 sl26 sl27 : Array (Option Value)} {oc0 kV0 dc0 pm0 cd0 ct0 oc1 kV1 dc1 pm1 cd1 ct1 oc2 kV2 dc2 pm2 cd2 ct2 oc3 kV3 dc3 pm3 cd3 ct3 oc4 kV4 dc4 pm4 cd4 ct4 oc5 kV5 dc5 pm5 cd5 ct5 oc6 kV6 dc6 pm6 cd6 ct6 oc7 kV7 dc7 pm7 cd7 ct7 oc8 kV8 dc8 pm8 cd8 ct8 oc9 kV9 dc9 pm9 cd9 ct9 oc10 kV10 dc10 pm10 cd10 ct10 oc11 kV11 dc11 pm11 cd11 ct11 oc12 kV12 dc12 pm12 cd12 ct12 oc13 kV13 dc13 pm13 cd13 ct13 oc14 kV14 dc14 pm14 cd14 ct14 oc15 kV15 dc15 pm15 cd15 ct15 oc16 kV16 dc16 pm16 cd16 ct16 oc17 kV17 dc17 pm17 cd17 ct17 oc18 kV18 dc18 pm18 cd18 ct18 oc19 kV19 dc19 pm19 cd19 ct19 oc20 kV20 dc20 pm20 cd20 ct20 oc21 kV21 dc21 pm21 cd21 ct21 oc22 kV22 dc22 pm22 cd22 ct22 oc23 kV23 dc23 pm23 cd23 ct23 oc24 kV24 dc24 pm24 cd24 ct24 oc25 kV25 dc25 pm25 cd25 ct25 oc26 kV26 dc26 pm26 cd26 ct26 oc27 kV27 dc27 pm27 cd27 ct27 : Value}
    {t_MAX_COLOURS t_DIGITS : Tok}
    (aC0 : PySem.W.nsIn K mainGlobals "Jar" = some (some (.ref C0)))
    (cpg0 : PySem.W.plainGet K C0 Str.empty = true)
    (chd0 : PySem.W.hasDictIn K C0 = true)
    (cpo0 : PySem.W.plainOver K C0 = true)
    (csa0 : PySem.W.findIn K (.ref C0) "__setattr__" = some (some (.builtin "object.__setattr__")))
    (cmk0 : PySem.W.makesIn K C0 = true)
    (ckc0 : PySem.W.keepIn K (.ref C0) = true)
    (cne0 : PySem.W.findIn K (.ref C0) "__ne__" = some (some (.builtin "object.__ne__")))
    (cob0 : PySem.W.mroIn K C0 (.type "object") = some true)
    (cis0 : PySem.W.isClsIn K C0 = true)
    (cty0 : PySem.W.typeIn K (.ref C0) = some (.type "type"))
    (cha0 : PySem.W.findIn K (.ref C0) "__class__" = some (some (.builtin "object.__class__")))
    (aC1 : PySem.W.nsIn K mainGlobals "Table" = some (some (.ref C1)))
    (cpg1 : PySem.W.plainGet K C1 Str.empty = true)
    (chd1 : PySem.W.hasDictIn K C1 = true)
    (cpo1 : PySem.W.plainOver K C1 = true)
    (csa1 : PySem.W.findIn K (.ref C1) "__setattr__" = some (some (.builtin "object.__setattr__")))
    (cmk1 : PySem.W.makesIn K C1 = true)
    (ckc1 : PySem.W.keepIn K (.ref C1) = true)
    (cne1 : PySem.W.findIn K (.ref C1) "__ne__" = some (some (.builtin "object.__ne__")))
    (cob1 : PySem.W.mroIn K C1 (.type "object") = some true)
    (cis1 : PySem.W.isClsIn K C1 = true)
    (cty1 : PySem.W.typeIn K (.ref C1) = some (.type "type"))
    (cha1 : PySem.W.findIn K (.ref C1) "__class__" = some (some (.builtin "object.__class__")))
    (aC2 : PySem.W.nsIn K mainGlobals "InvalidTable" = some (some (.ref C2)))
    (chn : PySem.W.specialIn K (.builtin "object.__class__") "__get__" = some (some (.builtin "getset_descriptor.__get__")))
    (cht : PySem.W.takesIn K (.builtin "object.__class__") = some true)
    (a0 : PySem.W.nsIn K mainGlobals "parse_jar" = some (some (.ref f0)))
    (l0 : K.lookup f0 = some ⟨oc0, od0, .func (PySem.W.fnOf "parse_jar" "parse_jar" (defArgs (top 26)) (defBody (top 26)) (defScope (top 26)) .none kV0 dc0 pm0 an0 cd0 ct0), sl0⟩)
    (c0 : PySem.W.codeIn K cd0 "parse_jar" = true)
    (k0 : PySem.W.keepIn K (.ref f0) = true)
    (a1 : PySem.W.findIn K (.ref C0) "__init__" = some (some (.ref f1)))
    (l1 : K.lookup f1 = some ⟨oc1, od1, .func (PySem.W.fnOf "__init__" "Jar.__init__" (defArgs (inClass (top 19) 0)) (defBody (inClass (top 19) 0)) (defScope (inClass (top 19) 0)) .none kV1 dc1 pm1 an1 cd1 ct1), sl1⟩)
    (c1 : PySem.W.codeIn K cd1 "Jar.__init__" = true)
    (k1 : PySem.W.keepIn K (.ref f1) = true)
    (i1 : PySem.W.isFn K (.ref f1) = true)
    (a2 : PySem.W.nsIn K mainGlobals "are_counts" = some (some (.ref f2)))
    (l2 : K.lookup f2 = some ⟨oc2, od2, .func (PySem.W.fnOf "are_counts" "are_counts" (defArgs (top 18)) (defBody (top 18)) (defScope (top 18)) .none kV2 dc2 pm2 an2 cd2 ct2), sl2⟩)
    (c2 : PySem.W.codeIn K cd2 "are_counts" = true)
    (k2 : PySem.W.keepIn K (.ref f2) = true)
    (a3 : PySem.W.nsIn K mainGlobals "is_integer" = some (some (.ref f3)))
    (l3 : K.lookup f3 = some ⟨oc3, od3, .func (PySem.W.fnOf "is_integer" "is_integer" (defArgs (top 11)) (defBody (top 11)) (defScope (top 11)) .none kV3 dc3 pm3 an3 cd3 ct3), sl3⟩)
    (c3 : PySem.W.codeIn K cd3 "is_integer" = true)
    (k3 : PySem.W.keepIn K (.ref f3) = true)
    (a4 : PySem.W.nsIn K mainGlobals "read_integers" = some (some (.ref f4)))
    (l4 : K.lookup f4 = some ⟨oc4, od4, .func (PySem.W.fnOf "read_integers" "read_integers" (defArgs (top 23)) (defBody (top 23)) (defScope (top 23)) .none kV4 dc4 pm4 an4 cd4 ct4), sl4⟩)
    (c4 : PySem.W.codeIn K cd4 "read_integers" = true)
    (k4 : PySem.W.keepIn K (.ref f4) = true)
    (a5 : PySem.W.nsIn K mainGlobals "parse_integer" = some (some (.ref f5)))
    (l5 : K.lookup f5 = some ⟨oc5, od5, .func (PySem.W.fnOf "parse_integer" "parse_integer" (defArgs (top 22)) (defBody (top 22)) (defScope (top 22)) .none kV5 dc5 pm5 an5 cd5 ct5), sl5⟩)
    (c5 : PySem.W.codeIn K cd5 "parse_integer" = true)
    (k5 : PySem.W.keepIn K (.ref f5) = true)
    (a6 : PySem.W.findIn K (.ref C0) "__eq__" = some (some (.ref f6)))
    (l6 : K.lookup f6 = some ⟨oc6, od6, .func (PySem.W.fnOf "__eq__" "Jar.__eq__" (defArgs (inClass (top 19) 17)) (defBody (inClass (top 19) 17)) (defScope (inClass (top 19) 17)) .none kV6 dc6 pm6 an6 cd6 ct6), sl6⟩)
    (c6 : PySem.W.codeIn K cd6 "Jar.__eq__" = true)
    (k6 : PySem.W.keepIn K (.ref f6) = true)
    (i6 : PySem.W.isFn K (.ref f6) = true)
    (a7 : PySem.W.nsIn K mainGlobals "parse_way" = some (some (.ref f7)))
    (l7 : K.lookup f7 = some ⟨oc7, od7, .func (PySem.W.fnOf "parse_way" "parse_way" (defArgs (top 31)) (defBody (top 31)) (defScope (top 31)) .none kV7 dc7 pm7 an7 cd7 ct7), sl7⟩)
    (c7 : PySem.W.codeIn K cd7 "parse_way" = true)
    (k7 : PySem.W.keepIn K (.ref f7) = true)
    (a8 : PySem.W.nsIn K mainGlobals "read_draw" = some (some (.ref f8)))
    (l8 : K.lookup f8 = some ⟨oc8, od8, .func (PySem.W.fnOf "read_draw" "read_draw" (defArgs (top 30)) (defBody (top 30)) (defScope (top 30)) .none kV8 dc8 pm8 an8 cd8 ct8), sl8⟩)
    (c8 : PySem.W.codeIn K cd8 "read_draw" = true)
    (k8 : PySem.W.keepIn K (.ref f8) = true)
    (a9 : PySem.W.nsIn K mainGlobals "format_way" = some (some (.ref f9)))
    (l9 : K.lookup f9 = some ⟨oc9, od9, .func (PySem.W.fnOf "format_way" "format_way" (defArgs (top 29)) (defBody (top 29)) (defScope (top 29)) .none kV9 dc9 pm9 an9 cd9 ct9), sl9⟩)
    (c9 : PySem.W.codeIn K cd9 "format_way" = true)
    (k9 : PySem.W.keepIn K (.ref f9) = true)
    (a10 : PySem.W.nsIn K mainGlobals "format_integers" = some (some (.ref f10)))
    (l10 : K.lookup f10 = some ⟨oc10, od10, .func (PySem.W.fnOf "format_integers" "format_integers" (defArgs (top 24)) (defBody (top 24)) (defScope (top 24)) .none kV10 dc10 pm10 an10 cd10 ct10), sl10⟩)
    (c10 : PySem.W.codeIn K cd10 "format_integers" = true)
    (k10 : PySem.W.keepIn K (.ref f10) = true)
    (a11 : PySem.W.nsIn K mainGlobals "_law_draw" = some (some (.ref f11)))
    (l11 : K.lookup f11 = some ⟨oc11, od11, .func (PySem.W.fnOf "_law_draw" "_law_draw" (defArgs (top 34)) (defBody (top 34)) (defScope (top 34)) .none kV11 dc11 pm11 an11 cd11 ct11), sl11⟩)
    (c11 : PySem.W.codeIn K cd11 "_law_draw" = true)
    (k11 : PySem.W.keepIn K (.ref f11) = true)
    (a12 : PySem.W.nsIn K mainGlobals "format_jar" = some (some (.ref f12)))
    (l12 : K.lookup f12 = some ⟨oc12, od12, .func (PySem.W.fnOf "format_jar" "format_jar" (defArgs (top 25)) (defBody (top 25)) (defScope (top 25)) .none kV12 dc12 pm12 an12 cd12 ct12), sl12⟩)
    (c12 : PySem.W.codeIn K cd12 "format_jar" = true)
    (k12 : PySem.W.keepIn K (.ref f12) = true)
    (a13 : PySem.W.findIn K (.ref C0) "counts" = some (some (.ref f13)))
    (l13 : K.lookup f13 = some ⟨oc13, od13, .func (PySem.W.fnOf "counts" "Jar.counts" (defArgs (inClass (top 19) 4)) (defBody (inClass (top 19) 4)) (defScope (inClass (top 19) 4)) .none kV13 dc13 pm13 an13 cd13 ct13), sl13⟩)
    (c13 : PySem.W.codeIn K cd13 "Jar.counts" = true)
    (k13 : PySem.W.keepIn K (.ref f13) = true)
    (i13 : PySem.W.isFn K (.ref f13) = true)
    (a14 : PySem.W.nsIn K mainGlobals "_law_choose" = some (some (.ref f14)))
    (l14 : K.lookup f14 = some ⟨oc14, od14, .func (PySem.W.fnOf "_law_choose" "_law_choose" (defArgs (top 35)) (defBody (top 35)) (defScope (top 35)) .none kV14 dc14 pm14 an14 cd14 ct14), sl14⟩)
    (c14 : PySem.W.codeIn K cd14 "_law_choose" = true)
    (k14 : PySem.W.keepIn K (.ref f14) = true)
    (a15 : PySem.W.nsIn K mainGlobals "parse_table" = some (some (.ref f15)))
    (l15 : K.lookup f15 = some ⟨oc15, od15, .func (PySem.W.fnOf "parse_table" "parse_table" (defArgs (top 28)) (defBody (top 28)) (defScope (top 28)) .none kV15 dc15 pm15 an15 cd15 ct15), sl15⟩)
    (c15 : PySem.W.codeIn K cd15 "parse_table" = true)
    (k15 : PySem.W.keepIn K (.ref f15) = true)
    (a16 : PySem.W.findIn K (.ref C1) "__init__" = some (some (.ref f16)))
    (l16 : K.lookup f16 = some ⟨oc16, od16, .func (PySem.W.fnOf "__init__" "Table.__init__" (defArgs (inClass (top 16) 0)) (defBody (inClass (top 16) 0)) (defScope (inClass (top 16) 0)) .none kV16 dc16 pm16 an16 cd16 ct16), sl16⟩)
    (c16 : PySem.W.codeIn K cd16 "Table.__init__" = true)
    (k16 : PySem.W.keepIn K (.ref f16) = true)
    (i16 : PySem.W.isFn K (.ref f16) = true)
    (a17 : PySem.W.nsIn K mainGlobals "first_wrong_place" = some (some (.ref f17)))
    (l17 : K.lookup f17 = some ⟨oc17, od17, .func (PySem.W.fnOf "first_wrong_place" "first_wrong_place" (defArgs (top 15)) (defBody (top 15)) (defScope (top 15)) .none kV17 dc17 pm17 an17 cd17 ct17), sl17⟩)
    (c17 : PySem.W.codeIn K cd17 "first_wrong_place" = true)
    (k17 : PySem.W.keepIn K (.ref f17) = true)
    (a18 : PySem.W.nsIn K mainGlobals "places" = some (some (.ref f18)))
    (l18 : K.lookup f18 = some ⟨oc18, od18, .func (PySem.W.fnOf "places" "places" (defArgs (top 14)) (defBody (top 14)) (defScope (top 14)) .none kV18 dc18 pm18 an18 cd18 ct18), sl18⟩)
    (c18 : PySem.W.codeIn K cd18 "places" = true)
    (k18 : PySem.W.keepIn K (.ref f18) = true)
    (a19 : PySem.W.nsIn K mainGlobals "is_colour" = some (some (.ref f19)))
    (l19 : K.lookup f19 = some ⟨oc19, od19, .func (PySem.W.fnOf "is_colour" "is_colour" (defArgs (top 12)) (defBody (top 12)) (defScope (top 12)) .none kV19 dc19 pm19 an19 cd19 ct19), sl19⟩)
    (c19 : PySem.W.codeIn K cd19 "is_colour" = true)
    (k19 : PySem.W.keepIn K (.ref f19) = true)
    (a20 : PySem.W.nsIn K mainGlobals "has_shape" = some (some (.ref f20)))
    (l20 : K.lookup f20 = some ⟨oc20, od20, .func (PySem.W.fnOf "has_shape" "has_shape" (defArgs (top 13)) (defBody (top 13)) (defScope (top 13)) .none kV20 dc20 pm20 an20 cd20 ct20), sl20⟩)
    (c20 : PySem.W.codeIn K cd20 "has_shape" = true)
    (k20 : PySem.W.keepIn K (.ref f20) = true)
    (a21 : PySem.W.findIn K (.ref C1) "__eq__" = some (some (.ref f21)))
    (l21 : K.lookup f21 = some ⟨oc21, od21, .func (PySem.W.fnOf "__eq__" "Table.__eq__" (defArgs (inClass (top 16) 10)) (defBody (inClass (top 16) 10)) (defScope (inClass (top 16) 10)) .none kV21 dc21 pm21 an21 cd21 ct21), sl21⟩)
    (c21 : PySem.W.codeIn K cd21 "Table.__eq__" = true)
    (k21 : PySem.W.keepIn K (.ref f21) = true)
    (i21 : PySem.W.isFn K (.ref f21) = true)
    (a22 : PySem.W.nsIn K mainGlobals "format_table" = some (some (.ref f22)))
    (l22 : K.lookup f22 = some ⟨oc22, od22, .func (PySem.W.fnOf "format_table" "format_table" (defArgs (top 27)) (defBody (top 27)) (defScope (top 27)) .none kV22 dc22 pm22 an22 cd22 ct22), sl22⟩)
    (c22 : PySem.W.codeIn K cd22 "format_table" = true)
    (k22 : PySem.W.keepIn K (.ref f22) = true)
    (a23 : PySem.W.findIn K (.ref C1) "rows" = some (some (.ref f23)))
    (l23 : K.lookup f23 = some ⟨oc23, od23, .func (PySem.W.fnOf "rows" "Table.rows" (defArgs (inClass (top 16) 2)) (defBody (inClass (top 16) 2)) (defScope (inClass (top 16) 2)) .none kV23 dc23 pm23 an23 cd23 ct23), sl23⟩)
    (c23 : PySem.W.codeIn K cd23 "Table.rows" = true)
    (k23 : PySem.W.keepIn K (.ref f23) = true)
    (i23 : PySem.W.isFn K (.ref f23) = true)
    (a24 : PySem.W.nsIn K mainGlobals "_law_kind" = some (some (.ref f24)))
    (l24 : K.lookup f24 = some ⟨oc24, od24, .func (PySem.W.fnOf "_law_kind" "_law_kind" (defArgs (top 37)) (defBody (top 37)) (defScope (top 37)) .none kV24 dc24 pm24 an24 cd24 ct24), sl24⟩)
    (c24 : PySem.W.codeIn K cd24 "_law_kind" = true)
    (k24 : PySem.W.keepIn K (.ref f24) = true)
    (a25 : PySem.W.nsIn K mainGlobals "_law_rows" = some (some (.ref f25)))
    (l25 : K.lookup f25 = some ⟨oc25, od25, .func (PySem.W.fnOf "_law_rows" "_law_rows" (defArgs (top 36)) (defBody (top 36)) (defScope (top 36)) .none kV25 dc25 pm25 an25 cd25 ct25), sl25⟩)
    (c25 : PySem.W.codeIn K cd25 "_law_rows" = true)
    (k25 : PySem.W.keepIn K (.ref f25) = true)
    (a26 : PySem.W.nsIn K mainGlobals "_law_pool" = some (some (.ref f26)))
    (l26 : K.lookup f26 = some ⟨oc26, od26, .func (PySem.W.fnOf "_law_pool" "_law_pool" (defArgs (top 33)) (defBody (top 33)) (defScope (top 33)) .none kV26 dc26 pm26 an26 cd26 ct26), sl26⟩)
    (c26 : PySem.W.codeIn K cd26 "_law_pool" = true)
    (k26 : PySem.W.keepIn K (.ref f26) = true)
    (a27 : PySem.W.nsIn K mainGlobals "law" = some (some (.ref f27)))
    (l27 : K.lookup f27 = some ⟨oc27, od27, .func (PySem.W.fnOf "law" "law" (defArgs (top 38)) (defBody (top 38)) (defScope (top 38)) .none kV27 dc27 pm27 an27 cd27 ct27), sl27⟩)
    (c27 : PySem.W.codeIn K cd27 "law" = true)
    (k27 : PySem.W.keepIn K (.ref f27) = true)
    (na0_own_counts : PySem.W.findIn K (.ref C0) "own_counts" = some none)
    (na1_own_rows : PySem.W.findIn K (.ref C1) "own_rows" = some none)
    (gk_MAX_COLOURS : PySem.W.nsIn K mainGlobals "MAX_COLOURS" = some (some (.int 8 t_MAX_COLOURS)))
    (gk_DIGITS : PySem.W.nsIn K mainGlobals "DIGITS" = some (some (.str "0123456789" t_DIGITS)))
    (z_list : PySem.W.nsIn K mainGlobals "list" = some none)
    (z_all : PySem.W.nsIn K mainGlobals "all" = some none)
    (z_isinstance : PySem.W.nsIn K mainGlobals "isinstance" = some none)
    (z_bool : PySem.W.nsIn K mainGlobals "bool" = some none)
    (z_int : PySem.W.nsIn K mainGlobals "int" = some none)
    (z_len : PySem.W.nsIn K mainGlobals "len" = some none)
    (z_tuple : PySem.W.nsIn K mainGlobals "tuple" = some none)
    (z_str : PySem.W.nsIn K mainGlobals "str" = some none)
    (z_range : PySem.W.nsIn K mainGlobals "range" = some none)
    (z_max : PySem.W.nsIn K mainGlobals "max" = some none)
    (z_min : PySem.W.nsIn K mainGlobals "min" = some none)
    (z_sorted : PySem.W.nsIn K mainGlobals "sorted" = some none)
    (z_enumerate : PySem.W.nsIn K mainGlobals "enumerate" = some none) :
    ∃ fd : FuncData, (∀ (s : Shared) (v : Value), BindsTo s fd ⟨[v], []⟩ [("_law_script", v)]) ∧ ∀ base : Heap, K.In base → base.Ns mainGlobals mg → FnOk l.prog w K mg base (L2.CX l.prog w) 7 fa fd ["_law_script"] (spLaw K) := by
  have e := hfa.symm.trans (PySem.W.mg_of X G a27)
  cases e
  have F3 := fun_mk (st := top 11) l3 c3 k3
  have b3 := F3.binds (ps := ["value"]) fun _ _ _ _ _ _ us hl => match us, hl with | [_], _ => rfl
  have F2 := fun_mk (st := top 18) l2 c2 k2
  have b2 := F2.binds (ps := ["value"]) fun _ _ _ _ _ _ us hl => match us, hl with | [_], _ => rfl
  have F1 := fun_mk (st := inClass (top 19) 0) l1 c1 k1
  have b1 := F1.binds (ps := ["self", "counts"]) fun _ _ _ _ _ _ us hl => match us, hl with | [_, _], _ => rfl
  have F5 := fun_mk (st := top 22) l5 c5 k5
  have b5 := F5.binds (ps := ["text"]) fun _ _ _ _ _ _ us hl => match us, hl with | [_], _ => rfl
  have F4 := fun_mk (st := top 23) l4 c4 k4
  have b4 := F4.binds (ps := ["text", "sign"]) fun _ _ _ _ _ _ us hl => match us, hl with | [_, _], _ => rfl
  have F0 := fun_mk (st := top 26) l0 c0 k0
  have b0 := F0.binds (ps := ["text"]) fun _ _ _ _ _ _ us hl => match us, hl with | [_], _ => rfl
  have F6 := fun_mk (st := inClass (top 19) 17) l6 c6 k6
  have b6 := F6.binds (ps := ["self", "other"]) fun _ _ _ _ _ _ us hl => match us, hl with | [_, _], _ => rfl
  have F8 := fun_mk (st := top 30) l8 c8 k8
  have b8 := F8.binds (ps := ["text"]) fun _ _ _ _ _ _ us hl => match us, hl with | [_], _ => rfl
  have F7 := fun_mk (st := top 31) l7 c7 k7
  have b7 := F7.binds (ps := ["text"]) fun _ _ _ _ _ _ us hl => match us, hl with | [_], _ => rfl
  have F10 := fun_mk (st := top 24) l10 c10 k10
  have b10 := F10.binds (ps := ["values", "sign"]) fun _ _ _ _ _ _ us hl => match us, hl with | [_, _], _ => rfl
  have F9 := fun_mk (st := top 29) l9 c9 k9
  have b9 := F9.binds (ps := ["way"]) fun _ _ _ _ _ _ us hl => match us, hl with | [_], _ => rfl
  have F11 := fun_mk (st := top 34) l11 c11 k11
  have b11 := F11.binds (ps := ["_law_pool_here", "_law_many"]) fun _ _ _ _ _ _ us hl => match us, hl with | [_, _], _ => rfl
  have F13 := fun_mk (st := inClass (top 19) 4) l13 c13 k13
  have b13 := F13.binds (ps := ["self"]) fun _ _ _ _ _ _ us hl => match us, hl with | [_], _ => rfl
  have F12 := fun_mk (st := top 25) l12 c12 k12
  have b12 := F12.binds (ps := ["jar"]) fun _ _ _ _ _ _ us hl => match us, hl with | [_], _ => rfl
  have F14 := fun_mk (st := top 35) l14 c14 k14
  have b14 := F14.binds (ps := ["_law_pool_here", "_law_items"]) fun _ _ _ _ _ _ us hl => match us, hl with | [_, _], _ => rfl
  have F18 := fun_mk (st := top 14) l18 c18 k18
  have b18 := F18.binds (ps := ["size"]) fun _ _ _ _ _ _ us hl => match us, hl with | [_], _ => rfl
  have F19 := fun_mk (st := top 12) l19 c19 k19
  have b19 := F19.binds (ps := ["size", "value"]) fun _ _ _ _ _ _ us hl => match us, hl with | [_, _], _ => rfl
  have F17 := fun_mk (st := top 15) l17 c17 k17
  have b17 := F17.binds (ps := ["rows"]) fun _ _ _ _ _ _ us hl => match us, hl with | [_], _ => rfl
  have F20 := fun_mk (st := top 13) l20 c20 k20
  have b20 := F20.binds (ps := ["rows"]) fun _ _ _ _ _ _ us hl => match us, hl with | [_], _ => rfl
  have F16 := fun_mk (st := inClass (top 16) 0) l16 c16 k16
  have b16 := F16.binds (ps := ["self", "rows"]) fun _ _ _ _ _ _ us hl => match us, hl with | [_, _], _ => rfl
  have F15 := fun_mk (st := top 28) l15 c15 k15
  have b15 := F15.binds (ps := ["text"]) fun _ _ _ _ _ _ us hl => match us, hl with | [_], _ => rfl
  have F21 := fun_mk (st := inClass (top 16) 10) l21 c21 k21
  have b21 := F21.binds (ps := ["self", "other"]) fun _ _ _ _ _ _ us hl => match us, hl with | [_, _], _ => rfl
  have F23 := fun_mk (st := inClass (top 16) 2) l23 c23 k23
  have b23 := F23.binds (ps := ["self"]) fun _ _ _ _ _ _ us hl => match us, hl with | [_], _ => rfl
  have F22 := fun_mk (st := top 27) l22 c22 k22
  have b22 := F22.binds (ps := ["table"]) fun _ _ _ _ _ _ us hl => match us, hl with | [_], _ => rfl
  have F25 := fun_mk (st := top 36) l25 c25 k25
  have b25 := F25.binds (ps := ["_law_pool_here", "_law_size"]) fun _ _ _ _ _ _ us hl => match us, hl with | [_, _], _ => rfl
  have F24 := fun_mk (st := top 37) l24 c24 k24
  have b24 := F24.binds (ps := ["_law_pool_here", "_law_size"]) fun _ _ _ _ _ _ us hl => match us, hl with | [_, _], _ => rfl
  have F26 := fun_mk (st := top 33) l26 c26 k26
  have b26 := F26.binds (ps := ["_law_script", "_law_k"]) fun _ _ _ _ _ _ us hl => match us, hl with | [_, _], _ => rfl
  have F27 := fun_mk (st := top 38) l27 c27 k27
  have b27 := F27.binds (ps := ["_law_script"]) fun _ _ _ _ _ _ us hl => match us, hl with | [_], _ => rfl
  have T : Txt K mg ⟨fun n => [C0, C1, C2].getD n 0⟩ (fun n => [f0, f1, f2, f3, f4, f5, f6, f7, f8, f9, f10, f11, f12, f13, f14, f15, f16, f17, f18, f19, f20, f21, f22, f23, f24, f25, f26, fa].getD n 0)
      (fun n => [PySem.W.fnOf "parse_jar" "parse_jar" (defArgs (top 26)) (defBody (top 26)) (defScope (top 26)) .none kV0 dc0 pm0 an0 cd0 ct0, PySem.W.fnOf "__init__" "Jar.__init__" (defArgs (inClass (top 19) 0)) (defBody (inClass (top 19) 0)) (defScope (inClass (top 19) 0)) .none kV1 dc1 pm1 an1 cd1 ct1, PySem.W.fnOf "are_counts" "are_counts" (defArgs (top 18)) (defBody (top 18)) (defScope (top 18)) .none kV2 dc2 pm2 an2 cd2 ct2, PySem.W.fnOf "is_integer" "is_integer" (defArgs (top 11)) (defBody (top 11)) (defScope (top 11)) .none kV3 dc3 pm3 an3 cd3 ct3, PySem.W.fnOf "read_integers" "read_integers" (defArgs (top 23)) (defBody (top 23)) (defScope (top 23)) .none kV4 dc4 pm4 an4 cd4 ct4, PySem.W.fnOf "parse_integer" "parse_integer" (defArgs (top 22)) (defBody (top 22)) (defScope (top 22)) .none kV5 dc5 pm5 an5 cd5 ct5, PySem.W.fnOf "__eq__" "Jar.__eq__" (defArgs (inClass (top 19) 17)) (defBody (inClass (top 19) 17)) (defScope (inClass (top 19) 17)) .none kV6 dc6 pm6 an6 cd6 ct6, PySem.W.fnOf "parse_way" "parse_way" (defArgs (top 31)) (defBody (top 31)) (defScope (top 31)) .none kV7 dc7 pm7 an7 cd7 ct7, PySem.W.fnOf "read_draw" "read_draw" (defArgs (top 30)) (defBody (top 30)) (defScope (top 30)) .none kV8 dc8 pm8 an8 cd8 ct8, PySem.W.fnOf "format_way" "format_way" (defArgs (top 29)) (defBody (top 29)) (defScope (top 29)) .none kV9 dc9 pm9 an9 cd9 ct9, PySem.W.fnOf "format_integers" "format_integers" (defArgs (top 24)) (defBody (top 24)) (defScope (top 24)) .none kV10 dc10 pm10 an10 cd10 ct10, PySem.W.fnOf "_law_draw" "_law_draw" (defArgs (top 34)) (defBody (top 34)) (defScope (top 34)) .none kV11 dc11 pm11 an11 cd11 ct11, PySem.W.fnOf "format_jar" "format_jar" (defArgs (top 25)) (defBody (top 25)) (defScope (top 25)) .none kV12 dc12 pm12 an12 cd12 ct12, PySem.W.fnOf "counts" "Jar.counts" (defArgs (inClass (top 19) 4)) (defBody (inClass (top 19) 4)) (defScope (inClass (top 19) 4)) .none kV13 dc13 pm13 an13 cd13 ct13, PySem.W.fnOf "_law_choose" "_law_choose" (defArgs (top 35)) (defBody (top 35)) (defScope (top 35)) .none kV14 dc14 pm14 an14 cd14 ct14, PySem.W.fnOf "parse_table" "parse_table" (defArgs (top 28)) (defBody (top 28)) (defScope (top 28)) .none kV15 dc15 pm15 an15 cd15 ct15, PySem.W.fnOf "__init__" "Table.__init__" (defArgs (inClass (top 16) 0)) (defBody (inClass (top 16) 0)) (defScope (inClass (top 16) 0)) .none kV16 dc16 pm16 an16 cd16 ct16, PySem.W.fnOf "first_wrong_place" "first_wrong_place" (defArgs (top 15)) (defBody (top 15)) (defScope (top 15)) .none kV17 dc17 pm17 an17 cd17 ct17, PySem.W.fnOf "places" "places" (defArgs (top 14)) (defBody (top 14)) (defScope (top 14)) .none kV18 dc18 pm18 an18 cd18 ct18, PySem.W.fnOf "is_colour" "is_colour" (defArgs (top 12)) (defBody (top 12)) (defScope (top 12)) .none kV19 dc19 pm19 an19 cd19 ct19, PySem.W.fnOf "has_shape" "has_shape" (defArgs (top 13)) (defBody (top 13)) (defScope (top 13)) .none kV20 dc20 pm20 an20 cd20 ct20, PySem.W.fnOf "__eq__" "Table.__eq__" (defArgs (inClass (top 16) 10)) (defBody (inClass (top 16) 10)) (defScope (inClass (top 16) 10)) .none kV21 dc21 pm21 an21 cd21 ct21, PySem.W.fnOf "format_table" "format_table" (defArgs (top 27)) (defBody (top 27)) (defScope (top 27)) .none kV22 dc22 pm22 an22 cd22 ct22, PySem.W.fnOf "rows" "Table.rows" (defArgs (inClass (top 16) 2)) (defBody (inClass (top 16) 2)) (defScope (inClass (top 16) 2)) .none kV23 dc23 pm23 an23 cd23 ct23, PySem.W.fnOf "_law_kind" "_law_kind" (defArgs (top 37)) (defBody (top 37)) (defScope (top 37)) .none kV24 dc24 pm24 an24 cd24 ct24, PySem.W.fnOf "_law_rows" "_law_rows" (defArgs (top 36)) (defBody (top 36)) (defScope (top 36)) .none kV25 dc25 pm25 an25 cd25 ct25, PySem.W.fnOf "_law_pool" "_law_pool" (defArgs (top 33)) (defBody (top 33)) (defScope (top 33)) .none kV26 dc26 pm26 an26 cd26 ct26, PySem.W.fnOf "law" "law" (defArgs (top 38)) (defBody (top 38)) (defScope (top 38)) .none kV27 dc27 pm27 an27 cd27 ct27].getD n (PySem.W.fnOf "parse_jar" "parse_jar" (defArgs (top 26)) (defBody (top 26)) (defScope (top 26)) .none kV0 dc0 pm0 an0 cd0 ct0))
      (fun n => [0, 0, 0, 0, 0, 0, 0, 0, 0, 0, 0, 0, 0, 0, 0, 0, 0, 0, 0, 0, 0, 0, 0, 0, 0, 0, 0, 0].getD n 0) :=
    ⟨F3,
    b3,
    k3,
    (PySem.W.mg_of X G a3),
    F2,
    b2,
    k2,
    (PySem.W.mg_of X G a2),
    F1,
    b1,
    k1,
    i1,
    F5,
    b5,
    k5,
    (PySem.W.mg_of X G a5),
    F4,
    b4,
    k4,
    (PySem.W.mg_of X G a4),
    F0,
    b0,
    k0,
    (PySem.W.mg_of X G a0),
    F6,
    b6,
    k6,
    i6,
    F8,
    b8,
    k8,
    (PySem.W.mg_of X G a8),
    F7,
    b7,
    k7,
    (PySem.W.mg_of X G a7),
    F10,
    b10,
    k10,
    (PySem.W.mg_of X G a10),
    F9,
    b9,
    k9,
    (PySem.W.mg_of X G a9),
    F11,
    b11,
    k11,
    (PySem.W.mg_of X G a11),
    F13,
    b13,
    k13,
    i13,
    ⟨a13, i13, k13⟩,
    F12,
    b12,
    k12,
    (PySem.W.mg_of X G a12),
    F14,
    b14,
    k14,
    (PySem.W.mg_of X G a14),
    F18,
    b18,
    k18,
    (PySem.W.mg_of X G a18),
    F19,
    b19,
    k19,
    (PySem.W.mg_of X G a19),
    F17,
    b17,
    k17,
    (PySem.W.mg_of X G a17),
    F20,
    b20,
    k20,
    (PySem.W.mg_of X G a20),
    F16,
    b16,
    k16,
    i16,
    F15,
    b15,
    k15,
    (PySem.W.mg_of X G a15),
    F21,
    b21,
    k21,
    i21,
    F23,
    b23,
    k23,
    i23,
    ⟨a23, i23, k23⟩,
    F22,
    b22,
    k22,
    (PySem.W.mg_of X G a22),
    F25,
    b25,
    k25,
    (PySem.W.mg_of X G a25),
    F24,
    b24,
    k24,
    (PySem.W.mg_of X G a24),
    F26,
    b26,
    k26,
    (PySem.W.mg_of X G a26),
    F27,
    b27,
    k27,
    (PySem.W.mg_of X G a27),
    (PySem.W.mg_of X G aC0),
    ⟨cpg0, chd0, cpo0, csa0⟩,
    ⟨cmk0, a1, i1, ckc0⟩,
    a6,
    cne0,
    cob0,
    ⟨cis0, cty0⟩,
    ⟨⟨cpg0, chd0, cpo0, csa0⟩, cha0, chn, cht, cob0⟩,
    (PySem.W.mg_of X G aC1),
    ⟨cpg1, chd1, cpo1, csa1⟩,
    ⟨cmk1, a16, i16, ckc1⟩,
    a21,
    cne1,
    cob1,
    ⟨cis1, cty1⟩,
    ⟨⟨cpg1, chd1, cpo1, csa1⟩, cha1, chn, cht, cob1⟩,
    (PySem.W.mg_of X G aC2),
    (fun c h => by
      simp only [List.mem_cons, List.not_mem_nil, or_false] at h
      subst h
      exact ⟨⟨cpg0, chd0, cpo0, csa0⟩, na0_own_counts⟩),
    (fun c h => by
      simp only [List.mem_cons, List.not_mem_nil, or_false] at h
      subst h
      exact ⟨⟨cpg1, chd1, cpo1, csa1⟩, na1_own_rows⟩),
    ⟨_, PySem.W.mg_of X G gk_MAX_COLOURS⟩,
    ⟨_, PySem.W.mg_of X G gk_DIGITS⟩,
    (PySem.W.mg_none_of X G z_list),
    (PySem.W.mg_none_of X G z_all),
    (PySem.W.mg_none_of X G z_isinstance),
    (PySem.W.mg_none_of X G z_bool),
    (PySem.W.mg_none_of X G z_int),
    (PySem.W.mg_none_of X G z_len),
    (PySem.W.mg_none_of X G z_tuple),
    (PySem.W.mg_none_of X G z_str),
    (PySem.W.mg_none_of X G z_range),
    (PySem.W.mg_none_of X G z_max),
    (PySem.W.mg_none_of X G z_min),
    (PySem.W.mg_none_of X G z_sorted),
    (PySem.W.mg_none_of X G z_enumerate)⟩
  exact ⟨PySem.W.fnOf "law" "law" (defArgs (top 38)) (defBody (top 38)) (defScope (top 38)) .none kV27 dc27 pm27 an27 cd27 ct27, fun s v => .of_eq rfl, fun base _ _ => L2.FnOk.imp (ok_27 (base := base) T) fun vs H Q E h => law_sp nl plain h⟩
theorem walk {l : PySem.W.OpenLaw} {q : Program} {loose : List Str} {XP : (Str → Option Value) → Heap → Prop} {YP : World → Heap → Prop} {d : DefRec} {K : Params → PySem.W.Frag} (hn : l.most = some 63) (hdf : d.params.defaults = [])
    (hY : ∀ (w : World) (h : Heap), YP w h → (K w.params).In h)
    (F : ∀ (w : World) (mg : Str → Option Value) (fa : Addr) (h : Heap), (K w.params).In h → h.Ns mainGlobals mg → mg d.name = some (.ref fa) →
      ∃ fd : FuncData, (∀ (s : Shared) (u : Value), BindsTo s fd ⟨[u], []⟩ [("_law_script", u)]) ∧ ∀ base : Heap, (K w.params).In base → base.Ns mainGlobals mg → FnOk l.prog w (K w.params) mg base (L2.CX l.prog w) 7 fa fd ["_law_script"] (spLaw (K w.params))) :
    PySem.W.WalkO q loose XP YP l.row.toRowW d [] (fun f vs => PySem.call f vs) :=
  L2.walk_of (n := 63) (k := 7) (x := "_law_script") (CX := fun w => L2.CX l.prog w) (sp := fun w => spLaw (K w.params)) hn (by decide) hdf ⟨rfl, by decide, by decide⟩ hY F (fun _ _ a ns hl _ hS => ⟨a, ns, rfl, hS, hl, fun _ => rfl⟩) fun _ _ _ _ _ z => by
    obtain ⟨_, _, _, _, _, _, _, _, _, _, _, _, z⟩ := z
    exact z
end G37

set_option Elab.async false
set_option linter.all false
set_option maxRecDepth 100000
set_option maxHeartbeats 1000000
namespace G37
open PySem L2 Bj TL
abbrev dI (i : Int) : Wv := .d (.int i)
abbrev ints' (l : List Int) : Py := .lst (l.map .int)
abbrev rowsP (R : List (List Int)) : Py := .lst (R.map fun r => ints' r)
theorem v_is_integer (i : Int) (st : Store) : m_is_integer [dI i] st = .ok (.d (.bl true)) st := by
  unfold m_is_integer
  refine wrapP_ok (st' := []) ?_ ⟨_, rfl⟩
  simp [b_is_integer]
theorem v_is_colour (n i : Int) (st : Store) (h : 0 ≤ i ∧ i < n) : m_is_colour [dI n, dI i] st = .ok (.d (.bl true)) st := by
  unfold m_is_colour
  refine wrapP_ok (st' := []) ?_ ⟨_, rfl⟩
  simp [b_is_colour, v_is_integer, h]
theorem v_are_counts (l : List Int) (st : Store) (h : ∀ i ∈ l, 0 ≤ i) (h1 : 1 ≤ l.length) (h2 : l.length ≤ 8) : m_are_counts [.d (ints' l)] st = .ok (.d (.bl true)) st := by
  unfold m_are_counts
  refine wrapP_ok (st' := []) ?_ ⟨_, rfl⟩
  have e1 : (1 : Int) ≤ l.length := by omega
  have e2 : (l.length : Int) ≤ 8 := by omega
  simp [b_are_counts, e1, e2, mLc, wipeV]
  rw [lcL_of (fun i => .int i) (fun _ => .bl true) _ _ (by omega) (fun i hi => ⟨_, rfl, rfl, by simp [v_is_integer, h i hi]⟩)]
  have e : (l.map fun _ => Py.bl true) = (l.map fun _ => true).map .bl := by simp
  rw [e]
  simp [-List.map_map, -List.map_const', -List.map_const]
theorem v_format_integers (l : List Int) (sep : Str) (x : Py) (hx : x = ints' l ∨ x = .tup (l.map .int)) (st : Store) (h : ∀ i ∈ l, ok60 i) (hl : l.length ≤ 100) (hs : sep.length ≤ 1) :
    m_format_integers [.d x, .d (.str sep)] st = .ok (.d (.str (Txt.join sep (l.map dec)))) st := by
  unfold m_format_integers
  refine wrapP_ok (st' := []) ?_ ⟨_, rfl⟩
  have hz : ((l.map dec).map fun x => x.length).sum + (l.map dec).length * sep.length ≤ 1000000 := by
    have h1 := sum_le (fun i => (dec i).length) 60 l fun i hi => dec_len (h i hi)
    rw [List.map_map]
    have h2 : (l.map dec).length * sep.length ≤ l.length * 1 := by rw [List.length_map]; exact Nat.mul_le_mul_left _ hs
    have e : ((fun x : Str => x.length) ∘ dec) = fun i => (dec i).length := rfl
    rw [e]
    omega
  have hz' : ((l.map dec).map fun x => x.length).sum + l.length * sep.length ≤ 1000000 := by rw [List.length_map] at hz; exact hz
  rcases hx with rfl | rfl
  all_goals
    simp [b_format_integers, mLc, wipeV]
    rw [lcL_of (fun i => .int i) (fun i => .str (dec i)) _ _ (by omega) (fun i hi => ⟨_, rfl, rfl, by simp [ok60_big (h i hi), dec]⟩)]
    have e : (l.map fun i => Py.str (dec i)) = (l.map dec).map .str := by simp
    simp [e, -List.map_map, hz']
theorem digits_mem {c : Nat} (h : 48 ≤ c ∧ c ≤ 57) : c ∈ ("0123456789" : Str).cps.toList := by
  have e : ("0123456789" : Str).cps.toList = [48, 49, 50, 51, 52, 53, 54, 55, 56, 57] := by decide +kernel
  rw [e]
  simp only [List.mem_cons, List.not_mem_nil, or_false]
  omega
theorem v_parse_integer (i : Int) (st : Store) (h : ok60 i) : m_parse_integer [.d (.str (dec i))] st = .ok (.d (.int i)) st := by
  unfold m_parse_integer
  refine wrapP_ok (st' := []) ?_ ⟨_, rfl⟩
  have h1 := dec_len h
  have h2 := dec_pos h.1
  have e0 : (dec i).length ≤ 1000000 := by omega
  have e0' : (dec i).length ≤ 640 := by omega
  have e1 : (1 : Int) ≤ (dec i).length := by omega
  have e2 : ((dec i).length : Int) ≤ 60 := by omega
  obtain ⟨c, r, e3, h3, h4, h5⟩ := dec_head h.1
  have e4 : (dec i).cps.toList = c :: r := e3
  have e5 : (dec i).length = r.length + 1 := by rw [len_tl, e3]; rfl
  simp [b_parse_integer, mLc, wipeV, e0, e1, e2, signs]
  rw [lcL_of (fun c => .str ⟨#[c]⟩) (fun _ => .bl true) _ _ (by have : (dec i).cps.toList.length = (dec i).length := by simp [Str.length]
                                                                omega) (fun c hc => ⟨_, rfl, rfl, by
    have := dec_digits h.1 hc
    simp [oIn, oInS, Array.mem_toList_iff.mp (digits_mem this)]⟩)]
  have e : ((dec i).cps.toList.map fun _ => Py.bl true) = ((dec i).cps.toList.map fun _ => true).map .bl := by simp
  rw [e]
  simp [-List.map_map, -List.map_const, e0]
  by_cases hr : r = []
  · have e6 : ¬ (1 : Int) < (dec i).length := by rw [e5, hr]; simp
    simp [e6, e0', dec_int h]
  · have e6 : (1 : Int) < (dec i).length := by
      have := List.length_pos_iff.mpr hr
      omega
    have e7 : atI (dec i).cps.toList 0 = some c := by
      rw [e4]
      unfold atI ixN
      simp
    have e8 : eqP (.str ⟨#[c]⟩) (.str ("0" : Str)) = false := by
      have h6 := h5 hr
      have : (⟨#[c]⟩ : Str) ≠ ("0" : Str) := by
        intro z
        have := congrArg (fun s : Str => s.cps.toList) z
        have e9 : ("0" : Str).cps.toList = [48] := by decide +kernel
        simp only [e9] at this
        simp at this
        exact h6 this
      simp [eqP, this]
    have e9 : PyData.strOk ⟨#[c]⟩ = true := strOk_iff.mpr fun d hd => by
      have : d = c := by simpa [tl] using hd
      omega
    simp [e6, e7]
    rw [oEq_ok (by simpa using e9) (by decide +kernel), e8]
    simp [e0', dec_int h]
theorem join_len {sep : Str} {l : List Int} (h : ∀ i ∈ l, ok60 i) (hl : l.length ≤ 100) (hs : sep.length ≤ 1) : (Txt.join sep (l.map dec)).length ≤ 6100 := by
  have h1 := len_join (sep := sep) (l := l.map dec)
  have h2 := sum_le (fun i => (dec i).length) 60 l fun i hi => dec_len (h i hi)
  rw [List.map_map, List.length_map] at h1
  have e : ((fun x : Str => x.length) ∘ dec) = fun i => (dec i).length := rfl
  rw [e] at h1
  have h3 : l.length * sep.length ≤ l.length * 1 := Nat.mul_le_mul_left _ hs
  omega
/-- separators: one sign, no digit -/
structure Sep (sep : Str) (s : Nat) : Prop where
  e : tl sep = [s]
  k : sep.cps.all (· < 256) = true
  d : s < 48 ∨ 57 < s
theorem Sep.len {sep : Str} {s : Nat} (h : Sep sep s) : sep.length = 1 := by rw [len_tl, h.e]; rfl
theorem sepB : Sep " " 32 := ⟨by decide +kernel, by decide +kernel, by omega⟩
theorem sepM : Sep "-" 45 := ⟨by decide +kernel, by decide +kernel, by omega⟩
theorem sepN : Sep "\n" 10 := ⟨by decide +kernel, by decide +kernel, by omega⟩
theorem v_read_integers (l : List Int) (sep : Str) (s : Nat) (hs : Sep sep s) (hne : l ≠ []) (st : Store) (h : ∀ i ∈ l, ok60 i) (hl : l.length ≤ 100) :
    m_read_integers [.d (.str (Txt.join sep (l.map dec))), .d (.str sep)] st = .ok (.d (ints' l)) st := by
  unfold m_read_integers
  refine wrapP_ok (st' := []) ?_ ⟨_, rfl⟩
  have h1 := join_len (sep := sep) h hl (Nat.le_of_eq hs.len)
  have h2 : (Txt.join sep (l.map dec)).length ≤ 1000000 := by omega
  have h3 : Txt.split (Txt.join sep (l.map dec)) sep = l.map dec := split_join hs.e hs.k (by simpa using hne) fun p hp => by
    obtain ⟨i, hi, rfl⟩ := List.mem_map.mp hp
    intro hm
    have := dec_digits (h i hi).1 hm
    have := hs.d
    omega
  have h4 : ¬ sep.length = 0 := by rw [hs.len]; decide
  simp [b_read_integers, mLc, wipeV, h2, h3, h4]
  have e : ∀ l : List Int, (List.map (Py.str ∘ dec) l) = l.map fun i => .str (dec i) := fun _ => rfl
  rw [e, lcL_of (fun i => .str (dec i)) (fun i => .int i) _ _ (by omega) (fun i hi => ⟨_, rfl, rfl, by simp [v_parse_integer _ _ (h i hi)]⟩)]
  simp
/-! ### jars -/
theorem v_Jar (l : List Int) (st : Store) (h : ∀ i ∈ l, 0 ≤ i) (h1 : 1 ≤ l.length) (h2 : l.length ≤ 8) : newF 0 m_Jar__init [.d (ints' l)] st = .ok (.d (.obj 0 [("own_counts", ints' l)])) st := by
  unfold newF
  simp [m_Jar__init, b_Jar__init, v_are_counts l _ h h1 h2, mFldS, setF, putW, datF]
theorem v_Jar_counts (l : List Int) (st : Store) : m_Jar_counts [.d (.obj 0 [("own_counts", ints' l)])] st = .ok (.d (ints' l)) st := by
  unfold m_Jar_counts
  refine wrapP_ok (st' := []) ?_ ⟨_, rfl⟩
  simp [b_Jar_counts]
theorem v_format_jar (l : List Int) (st : Store) (h : ∀ i ∈ l, ok60 i) (hl : l.length ≤ 100) : m_format_jar [.d (.obj 0 [("own_counts", ints' l)])] st = .ok (.d (.str (Txt.join " " (l.map dec)))) st := by
  unfold m_format_jar
  refine wrapP_ok (st' := []) ?_ ⟨_, rfl⟩
  have : (List.lookup (Str.ofString "counts") [(Str.ofString "own_counts", Wv.d (ints' l))]) = none := by
    rw [List.lookup_cons, show (("counts" : Str) == ("own_counts" : Str)) = false from by decide +kernel]
    rfl
  simp [b_format_jar, this, v_Jar_counts, v_format_integers l " " _ (.inl rfl) _ h hl (Nat.le_of_eq sepB.len)]
theorem inP_non : ∀ (l : List Int), inP .non (l.map .int) = false
  | [] => rfl
  | x :: l => by
    have := inP_non l
    unfold inP at this ⊢
    simp [eqP, this]
theorem v_parse_jar (l : List Int) (st : Store) (h : ∀ i ∈ l, ok60 i) (h1 : 1 ≤ l.length) (h2 : l.length ≤ 8) : m_parse_jar [.d (.str (Txt.join " " (l.map dec)))] st = .ok (.d (.obj 0 [("own_counts", ints' l)])) st := by
  unfold m_parse_jar
  refine wrapP_ok (st' := []) ?_ ⟨_, rfl⟩
  have hne : l ≠ [] := by intro e; rw [e] at h1; simp at h1
  simp [b_parse_jar, v_read_integers l " " 32 sepB hne _ h (by omega), oIn, oInL, inP_non, v_are_counts l _ (fun i hi => (h i hi).1) h1 h2, v_Jar l _ (fun i hi => (h i hi).1) h1 h2]
theorem v_Jar_eq (l m : List Int) (st : Store) : m_Jar__eq [.d (.obj 0 [("own_counts", ints' l)]), .d (.obj 0 [("own_counts", ints' m)])] st = .ok (.d (.bl (decide (l = m)))) st := by
  unfold m_Jar__eq
  refine wrapP_ok (st' := []) ?_ ⟨_, rfl⟩
  simp [b_Jar__eq]
  rw [oEq_ok (by simp) (by simp)]
  simp [eqP, eqPs_ints]
end G37

set_option Elab.async false
set_option linter.all false
set_option maxRecDepth 100000
set_option maxHeartbeats 1000000
namespace G37
open PySem L2 Bj TL
/-! ### tables -/
/-- the rows of n colours: M a b in the row a, at the place b -/
def mat (n : Nat) (M : Nat → Nat → Int) : List (List Int) := (List.range n).map fun a => (List.range n).map fun b => M a b
structure Good (n : Nat) (M : Nat → Nat → Int) : Prop where
  sym : ∀ a b, M a b = M b a
  lo : ∀ a b, a < n → b < n → 0 ≤ M a b
  hi : ∀ a b, a < n → b < n → M a b < n
theorem mat_row {n : Nat} {M : Nat → Nat → Int} {r : List Int} (h : r ∈ mat n M) : ∃ a, a < n ∧ r = (List.range n).map fun b => M a b := by
  obtain ⟨a, ha, rfl⟩ := List.mem_map.mp h
  exact ⟨a, List.mem_range.mp ha, rfl⟩
theorem Good.ok {n : Nat} {M : Nat → Nat → Int} (g : Good n M) (hn : n ≤ 8) {r : List Int} (h : r ∈ mat n M) : r.length = n ∧ ∀ i ∈ r, ok60 i := by
  obtain ⟨a, ha, rfl⟩ := mat_row h
  refine ⟨by simp, fun i hi => ?_⟩
  obtain ⟨b, hb, rfl⟩ := List.mem_map.mp hi
  have hb := List.mem_range.mp hb
  have := g.lo a b ha hb
  have := g.hi a b ha hb
  refine ⟨by omega, ?_⟩
  have : (8 : Int) < 10 ^ 60 := by decide
  omega
theorem v_has_shape (R : List (List Int)) (n : Nat) (st : Store) (hR : R.length = n) (h : ∀ r ∈ R, r.length = n) (h1 : 1 ≤ n) (h2 : n ≤ 8) : m_has_shape [.d (rowsP R)] st = .ok (.d (.bl true)) st := by
  unfold m_has_shape
  refine wrapP_ok (st' := []) ?_ ⟨_, rfl⟩
  have e1 : (1 : Int) ≤ n := by omega
  have e2 : (n : Int) ≤ 8 := by omega
  simp [b_has_shape, hR, e1, e2, mLc, wipeV]
  rw [lcL_of (fun r => ints' r) (fun _ => .bl true) _ _ (by omega) (fun r hr => ⟨_, rfl, rfl, by simp [h r hr, hR]⟩)]
  have e : (R.map fun _ => Py.bl true) = (R.map fun _ => true).map .bl := by simp
  rw [e]
  simp [-List.map_map, -List.map_const]
def plc (n : Nat) : List Py := ((List.range n).map fun (a : Nat) => (List.range n).map fun (b : Nat) => Py.tup [.int (a : Int), .int (b : Int)]).flatten
theorem sum_const {α : Type} (k : Nat) : ∀ l : List α, (l.map fun _ => k).sum = l.length * k
  | [] => by simp
  | x :: l => by rw [List.map_cons, List.sum_cons, sum_const k l, List.length_cons, Nat.succ_mul]; omega
theorem v_places (n : Nat) (st : Store) (h : n ≤ 8) : m_places [dI n] st = .ok (.d (.lst (plc n))) st := by
  unfold m_places
  refine wrapP_ok (st' := []) ?_ ⟨_, rfl⟩
  have e1 : (-4000000000000000000 : Int) ≤ n := by omega
  have e2 : (n : Int) ≤ 4000000000000000000 := by omega
  simp [b_places, mLc2, wipeV, e1, e2, rng_nat]
  rw [lc2L_of (fun (a : Nat) => .int (a : Int)) (fun _ => List.range n) (fun _ (b : Nat) => .int (b : Int)) (fun a b => .tup [.int (a : Int), .int (b : Int)]) _ _ (by
    rw [sum_const]
    simp
    have : n * n ≤ 8 * 8 := Nat.mul_le_mul h h
    omega) (fun a ha => ⟨_, rfl, rfl, by simp [e1, e2, rng_nat], fun b hb => ⟨_, rfl, rfl, by simp [wipeV]⟩⟩)]
  simp [plc]
theorem mem_plc {n : Nat} {x : Py} (h : x ∈ plc n) : ∃ a b : Nat, a < n ∧ b < n ∧ x = .tup [.int a, .int b] := by
  unfold plc at h
  obtain ⟨l, hl, hx⟩ := List.mem_flatten.mp h
  obtain ⟨a, ha, rfl⟩ := List.mem_map.mp hl
  obtain ⟨b, hb, rfl⟩ := List.mem_map.mp hx
  exact ⟨a, b, List.mem_range.mp ha, List.mem_range.mp hb, rfl⟩
theorem mat_len (n : Nat) (M : Nat → Nat → Int) : (mat n M).length = n := by simp [mat]
theorem mat_at {n a : Nat} (M : Nat → Nat → Int) (h : a < n) : L2.atI ((mat n M).map fun r => ints' r) (a : Int) = some (ints' ((List.range n).map fun b => M a b)) := by
  rw [Bj.atI_nat]
  simp [mat, h]
theorem row_at {n b : Nat} (f : Nat → Int) (h : b < n) : L2.atI (((List.range n).map f).map Py.int) (b : Int) = some (.int (f b)) := by
  rw [Bj.atI_nat]
  simp [h]
theorem v_first_wrong_place (n : Nat) (M : Nat → Nat → Int) (g : Good n M) (st : Store) (h : n ≤ 8) : m_first_wrong_place [.d (rowsP (mat n M))] st = .ok (.d .non) st := by
  unfold m_first_wrong_place
  refine wrapP_ok (st' := []) ?_ ⟨_, rfl⟩
  simp [b_first_wrong_place, mat_len, v_places n _ h]
  obtain ⟨e2, st2, h1, h2⟩ := forL_inv (t := mUnT 2 (mTCons (mSet 1) (mTCons (mSet 2) mTNil))) (b := b_first_wrong_place_L0)
    (fun l env st => st = [] ∧ (∀ x ∈ l, x ∈ plc n) ∧ ∃ o1 o2, env = [some (.d (rowsP (mat n M))), o1, o2]) (plc n) [some (.d (rowsP (mat n M))), none, none] [] ⟨rfl, fun _ h => h, _, _, rfl⟩ (by
      rintro x l env st ⟨rfl, hl, o1, o2, rfl⟩
      obtain ⟨a, b, ha, hb, rfl⟩ := mem_plc (hl _ (List.mem_cons_self ..))
      have hab := g.lo a b ha hb
      have hab2 := g.hi a b ha hb
      refine ⟨[some (.d (rowsP (mat n M))), some (dI a), some (dI b)], [some (.d (rowsP (mat n M))), some (dI a), some (dI b)], [], [], by simp, .inl ?_, rfl, fun x hx => hl x (List.mem_cons_of_mem _ hx), _, _, rfl⟩
      simp [-List.map_map, b_first_wrong_place_L0, mat_len, mat_at M ha, mat_at M hb, row_at _ hb, row_at _ ha, v_is_colour _ _ _ ⟨hab, hab2⟩]
      by_cases hba : b < a
      · simp [hba, g.sym b a]
      · simp [hba])
  obtain ⟨rfl, _, o1, o2, rfl⟩ := h2
  simp [h1]
theorem v_Table (n : Nat) (M : Nat → Nat → Int) (g : Good n M) (st : Store) (h1 : 1 ≤ n) (h : n ≤ 8) : newF 1 m_Table__init [.d (rowsP (mat n M))] st = .ok (.d (.obj 1 [("own_rows", rowsP (mat n M))])) st := by
  unfold newF
  have hr : ∀ r ∈ mat n M, r.length = n := fun r hr => (g.ok h hr).1
  simp [m_Table__init, b_Table__init, v_has_shape (mat n M) n _ (mat_len n M) hr h1 h, v_first_wrong_place n M g _ h, mFldS, setF, mLc, wipeV]
  rw [lcL_of (fun r => ints' r) (fun r => ints' r) _ _ (by rw [mat_len]; omega) (fun r hr => ⟨_, rfl, rfl, by simp⟩)]
  simp [putW, datF]
theorem v_Table_rows (R : List (List Int)) (hR : R.length ≤ 8) (st : Store) : m_Table_rows [.d (.obj 1 [("own_rows", rowsP R)])] st = .ok (.d (rowsP R)) st := by
  unfold m_Table_rows
  refine wrapP_ok (st' := []) ?_ ⟨_, rfl⟩
  simp [b_Table_rows, mLc, wipeV]
  rw [lcL_of (fun r => ints' r) (fun r => ints' r) _ _ (by omega) (fun r hr => ⟨_, rfl, rfl, by simp⟩)]
  simp
def rowT (r : List Int) : Str := Txt.join " " (r.map dec)
def tabT (R : List (List Int)) : Str := Txt.join "\n" (R.map rowT)
theorem rowT_len {r : List Int} (h : ∀ i ∈ r, ok60 i) (hr : r.length ≤ 8) : (rowT r).length ≤ 6100 := join_len h (by omega) (Nat.le_of_eq sepB.len)
theorem tab_sum {R : List (List Int)} (hR : R.length ≤ 8) (h : ∀ r ∈ R, r.length ≤ 8 ∧ ∀ i ∈ r, ok60 i) : ((R.map rowT).map fun x => x.length).sum + R.length * Str.length "\n" ≤ 1000000 := by
  have h1 := sum_le (fun r => (rowT r).length) 6100 R fun r hr => rowT_len (h r hr).2 (h r hr).1
  rw [List.map_map, sepN.len]
  have e : ((fun x : Str => x.length) ∘ rowT) = fun r => (rowT r).length := rfl
  rw [e]
  omega
theorem v_format_table (R : List (List Int)) (hR : R.length ≤ 8) (h : ∀ r ∈ R, r.length ≤ 8 ∧ ∀ i ∈ r, ok60 i) (st : Store) : m_format_table [.d (.obj 1 [("own_rows", rowsP R)])] st = .ok (.d (.str (tabT R))) st := by
  unfold m_format_table
  refine wrapP_ok (st' := []) ?_ ⟨_, rfl⟩
  have : (List.lookup (Str.ofString "rows") [(Str.ofString "own_rows", Wv.d (rowsP R))]) = none := by
    rw [List.lookup_cons, show (("rows" : Str) == ("own_rows" : Str)) = false from by decide +kernel]
    rfl
  have hs := tab_sum hR h
  simp [b_format_table, this, v_Table_rows R hR, mLc, wipeV]
  rw [lcL_of (fun r => ints' r) (fun r => .str (rowT r)) _ _ (by omega) (fun r hr => ⟨_, rfl, rfl, by simp [v_format_integers r " " _ (.inl rfl) _ (h r hr).2 (by have := (h r hr).1; omega) (Nat.le_of_eq sepB.len), rowT]⟩)]
  have e : (R.map fun r => Py.str (rowT r)) = (R.map rowT).map .str := by simp
  rw [e]
  simp [-List.map_map, hs, tabT]
end G37

set_option Elab.async false
set_option linter.all false
set_option maxRecDepth 100000
set_option maxHeartbeats 1000000
namespace G37
open PySem L2 Bj TL
theorem rowT_free {r : List Int} (h : ∀ i ∈ r, ok60 i) {s : Nat} (hs : s ≠ 32 ∧ (s < 48 ∨ 57 < s)) : s ∉ tl (rowT r) := by
  intro hm
  rcases mem_join hm with h1 | ⟨p, h1, h2⟩
  · rw [sepB.e] at h1
    simp at h1
    exact hs.1 h1
  · obtain ⟨i, hi, rfl⟩ := List.mem_map.mp h1
    have := dec_digits (h i hi).1 h2
    omega
theorem tab_split {R : List (List Int)} (hne : R ≠ []) (h : ∀ r ∈ R, ∀ i ∈ r, ok60 i) : Txt.split (tabT R) "\n" = R.map rowT := by
  refine split_join sepN.e sepN.k (by simpa using hne) fun p hp => ?_
  obtain ⟨r, hr, rfl⟩ := List.mem_map.mp hp
  exact rowT_free (h r hr) ⟨by decide, by omega⟩
theorem tab_len {R : List (List Int)} (hR : R.length ≤ 8) (h : ∀ r ∈ R, r.length ≤ 8 ∧ ∀ i ∈ r, ok60 i) : (tabT R).length ≤ 1000000 := by
  have h1 := len_join (sep := "\n") (l := R.map rowT)
  rw [List.length_map] at h1
  exact Nat.le_trans h1 (tab_sum hR h)
theorem mem_enumL {x : Py} : ∀ {k : Nat} {l : List Py}, x ∈ enumL k l → ∃ i y, y ∈ l ∧ x = .tup [.int i, y]
  | _, [], h => by simp [enumL] at h
  | k, y :: l, h => by
    unfold enumL at h
    rcases List.mem_cons.mp h with h | h
    · exact ⟨k, y, List.mem_cons_self .., h⟩
    · obtain ⟨i, z, h1, h2⟩ := mem_enumL h
      exact ⟨i, z, List.mem_cons_of_mem _ h1, h2⟩
theorem v_parse_table (n : Nat) (M : Nat → Nat → Int) (g : Good n M) (st : Store) (h1 : 1 ≤ n) (h : n ≤ 8) : m_parse_table [.d (.str (tabT (mat n M)))] st = .ok (.d (.obj 1 [("own_rows", rowsP (mat n M))])) st := by
  unfold m_parse_table
  refine wrapP_ok (st' := []) ?_ ⟨_, rfl⟩
  have hr : ∀ r ∈ mat n M, r.length = n ∧ ∀ i ∈ r, ok60 i := fun r hr => g.ok h hr
  have hne : mat n M ≠ [] := by intro e; have := mat_len n M; rw [e] at this; simp at this; omega
  have hs := tab_split hne fun r hr' => (hr r hr').2
  have hl := tab_len (R := mat n M) (by rw [mat_len]; exact h) fun r hr' => ⟨by rw [(hr r hr').1]; exact h, (hr r hr').2⟩
  have h4 : ¬ Str.length "\n" = 0 := by rw [sepN.len]; decide
  simp [b_parse_table, hl, hs, h4, mLc, wipeV]
  have e : List.map (Py.str ∘ rowT) (mat n M) = (mat n M).map fun r => .str (rowT r) := rfl
  rw [e, lcL_of (fun r => .str (rowT r)) (fun r => ints' r) _ _ (by rw [mat_len]; omega) (fun r hr' => ⟨_, rfl, rfl, by
    have hrne : r ≠ [] := by intro e; have := (hr r hr').1; rw [e] at this; simp at this; omega
    simp [rowT, v_read_integers r " " 32 sepB hrne _ (hr r hr').2 (by have := (hr r hr').1; omega)]⟩)]
  simp
  rw [lcL_pure (fun _ => false) (fun x => x) _ _ (by rw [enumL_length, List.length_map, mat_len]; omega) (fun x hx => by
    obtain ⟨i, y, hy, rfl⟩ := mem_enumL hx
    obtain ⟨r, hr', rfl⟩ := List.mem_map.mp hy
    refine ⟨[some (.d (.str (tabT (mat n M)))), some (.d (rowsP (mat n M))), none, some (.d (ints' r)), some (dI i)], by simp, ?_, fun z => absurd z (by simp)⟩
    simp [oIn, oInL, inP_non])]
  have e2 : (List.filter (fun _ : Py => false) (enumL 0 (List.map (fun r => ints' r) (mat n M)))) = [] := by simp
  simp [v_Table n M g _ h1 h]
theorem v_Table_eq (n : Nat) (M : Nat → Nat → Int) (st : Store) : m_Table__eq [.d (.obj 1 [("own_rows", rowsP (mat n M))]), .d (.obj 1 [("own_rows", rowsP (mat n M))])] st = .ok (.d (.bl true)) st := by
  unfold m_Table__eq
  refine wrapP_ok (st' := []) ?_ ⟨_, rfl⟩
  have hk : okD 20 (rowsP (mat n M)) = true := okDs_of fun x hx => by
    obtain ⟨r, _, rfl⟩ := List.mem_map.mp hx
    simp
  simp [b_Table__eq]
  rw [oEq_ok hk hk, eqP_refl]
  simp
/-! ### lists of draws -/
abbrev drawP (p : Int × Int) : Py := .tup [.int p.1, .int p.2]
def drawT (p : Int × Int) : Str := Txt.join "-" ([p.1, p.2].map dec)
def wayT (W : List (Int × Int)) : Str := Txt.join " " (W.map drawT)
def okW (p : Int × Int) : Prop := ok60 p.1 ∧ ok60 p.2 ∧ p.1 ≤ p.2
theorem okW.all {p : Int × Int} (h : okW p) : ∀ i ∈ [p.1, p.2], ok60 i := fun i hi => by
  simp only [List.mem_cons, List.not_mem_nil, or_false] at hi
  rcases hi with rfl | rfl
  · exact h.1
  · exact h.2.1
theorem drawT_len {p : Int × Int} (h : okW p) : (drawT p).length ≤ 6100 := join_len h.all (by simp) (Nat.le_of_eq sepM.len)
theorem drawT_free {p : Int × Int} (h : okW p) {s : Nat} (hs : s ≠ 45 ∧ (s < 48 ∨ 57 < s)) : s ∉ tl (drawT p) := by
  intro hm
  rcases mem_join hm with h1 | ⟨q, h1, h2⟩
  · rw [sepM.e] at h1
    simp at h1
    exact hs.1 h1
  · obtain ⟨i, hi, rfl⟩ := List.mem_map.mp h1
    have := dec_digits (h.all i hi).1 h2
    omega
theorem way_sum {W : List (Int × Int)} (hW : W.length ≤ 20) (h : ∀ p ∈ W, okW p) : ((W.map drawT).map fun x => x.length).sum + W.length * Str.length " " ≤ 1000000 := by
  have h1 := sum_le (fun p => (drawT p).length) 6100 W fun p hp => drawT_len (h p hp)
  rw [List.map_map, sepB.len]
  have e : ((fun x : Str => x.length) ∘ drawT) = fun p => (drawT p).length := rfl
  rw [e]
  omega
theorem v_format_way (W : List (Int × Int)) (hW : W.length ≤ 20) (h : ∀ p ∈ W, okW p) (st : Store) : m_format_way [.d (.lst (W.map drawP))] st = .ok (.d (.str (wayT W))) st := by
  unfold m_format_way
  refine wrapP_ok (st' := []) ?_ ⟨_, rfl⟩
  have hs := way_sum hW h
  simp [b_format_way, mLc, wipeV]
  rw [lcL_of drawP (fun p => .str (drawT p)) _ _ (by omega) (fun p hp => ⟨_, rfl, rfl, by
    simp [v_format_integers [p.1, p.2] "-" (drawP p) (.inr rfl) _ (h p hp).all (by simp) (Nat.le_of_eq sepM.len), drawT]⟩)]
  have e : (W.map fun p => Py.str (drawT p)) = (W.map drawT).map .str := by simp
  rw [e]
  simp [-List.map_map, hs, wayT]
theorem v_read_draw (p : Int × Int) (h : okW p) (st : Store) : m_read_draw [.d (.str (drawT p))] st = .ok (.d (drawP p)) st := by
  unfold m_read_draw
  refine wrapP_ok (st' := []) ?_ ⟨_, rfl⟩
  have := v_read_integers [p.1, p.2] "-" 45 sepM (by simp) [] h.all (by simp)
  have h3 := h.2.2
  simp [b_read_draw, mMatch2, drawT] at this ⊢
  simp [this, h3]
theorem drawT_ne (p : Int × Int) (h : okW p) : 1 ≤ (drawT p).length := by
  have h1 := dec_pos h.1.1
  have e : tl (drawT p) = tl (dec p.1) ++ ([45] ++ tl (dec p.2)) := by
    unfold drawT
    rw [join_eq, tl_join, sepM.e]
    rfl
  rw [len_tl, e, List.length_append, ← len_tl]
  omega
theorem wayT_ne {W : List (Int × Int)} (hne : W ≠ []) (h : ∀ p ∈ W, okW p) : wayT W ≠ "" := by
  intro e
  have e1 := congrArg tl e
  cases W with
  | nil => exact hne rfl
  | cons p W =>
    have h1 := drawT_ne p (h p (List.mem_cons_self ..))
    unfold wayT at e1
    rw [join_eq, tl_join] at e1
    have e2 : tl ("" : Str) = [] := by decide +kernel
    rw [e2] at e1
    have h2 : tl (drawT p) ≠ [] := by
      intro z
      rw [len_tl, z] at h1
      simp at h1
    cases W with
    | nil => simp [joinL] at e1; exact h2 (by simpa [tl] using e1)
    | cons q W => simp [joinL] at e1; exact h2 (by simpa [tl] using e1.1)
theorem wayT_ok {W : List (Int × Int)} (h : ∀ p ∈ W, okW p) : PyData.strOk (wayT W) = true := strOk_iff.mpr fun c hc => by
  rcases mem_join hc with h1 | ⟨q, h1, h2⟩
  · rw [sepB.e] at h1; simp at h1; omega
  · obtain ⟨p, hp, rfl⟩ := List.mem_map.mp h1
    by_cases hc2 : c < 0x110000
    · exact hc2
    · exact absurd h2 (drawT_free (h p hp) ⟨by omega, by omega⟩)
theorem v_parse_way (W : List (Int × Int)) (hne : W ≠ []) (hW : W.length ≤ 20) (h : ∀ p ∈ W, okW p) (st : Store) : m_parse_way [.d (.str (wayT W))] st = .ok (.d (.lst (W.map drawP))) st := by
  unfold m_parse_way
  refine wrapP_ok (st' := []) ?_ ⟨_, rfl⟩
  have hl : (wayT W).length ≤ 1000000 := by
    have h1 := len_join (sep := " ") (l := W.map drawT)
    rw [List.length_map] at h1
    exact Nat.le_trans h1 (way_sum hW h)
  have hs : Txt.split (wayT W) " " = W.map drawT := split_join sepB.e sepB.k (by simpa using hne) fun q hq => by
    obtain ⟨p, hp, rfl⟩ := List.mem_map.mp hq
    exact drawT_free (h p hp) ⟨by decide, by omega⟩
  have h4 : ¬ Str.length " " = 0 := by rw [sepB.len]; decide
  have h5 : oNe (.d (.str (wayT W))) (.d (.str "")) [] = .ok (.d (.bl true)) [] := by
    rw [oNe_ok (by simpa using wayT_ok h) (by decide +kernel)]
    simp [eqP, wayT_ne hne h]
  simp [b_parse_way, h5, hl, hs, h4, mLc, wipeV]
  have e : List.map (Py.str ∘ drawT) W = W.map fun p => .str (drawT p) := rfl
  rw [e, lcL_of (fun p => .str (drawT p)) drawP _ _ (by omega) (fun p hp => ⟨_, rfl, rfl, by simp [v_read_draw p (h p hp)]⟩)]
  have hk : okDs 19 (W.map drawP) = true := okDs_of fun x hx => by
    obtain ⟨p, _, rfl⟩ := List.mem_map.mp hx
    rfl
  have hn : inP .non (W.map drawP) = false := by
    unfold inP
    rw [List.any_eq_false]
    intro x hx
    obtain ⟨p, _, rfl⟩ := List.mem_map.mp hx
    simp [eqP]
  simp [-List.map_map, oIn, oInL, hk, hn]
theorem v_parse_way0 (st : Store) : m_parse_way [.d (.str "")] st = .ok (.d (.lst [])) st := by
  unfold m_parse_way
  refine wrapP_ok (st' := []) ?_ ⟨_, rfl⟩
  have h5 : oNe (.d (.str "")) (.d (.str "")) [] = .ok (.d (.bl false)) [] := by
    rw [oNe_ok (by decide +kernel) (by decide +kernel)]
    rfl
  simp [b_parse_way, h5, oIn, oInL, inP]
end G37

set_option Elab.async false
set_option linter.all false
set_option maxRecDepth 100000
set_option maxHeartbeats 1000000
namespace G37
open PySem L2 Bj TL
/-! ### the pool of cells -/
def PoolAt (n : Nat) (st : Store) : Prop := ∃ c s : Int, st[n]? = some (.lst [dI c, dI s]) ∧ 0 ≤ s ∧ s < 2147483647
/-- all but the cell n as it was -/
def Frm (n : Nat) (st st' : Store) : Prop := st.length ≤ st'.length ∧ ∀ m, m < st.length → m ≠ n → st'[m]? = st[m]?
theorem Frm.refl {n : Nat} {st : Store} : Frm n st st := ⟨Nat.le_refl _, fun _ _ _ => rfl⟩
theorem Frm.trans {n : Nat} {a b c : Store} (h : Frm n a b) (k : Frm n b c) : Frm n a c := ⟨Nat.le_trans h.1 k.1, fun m h1 h2 => (k.2 m (Nat.lt_of_lt_of_le h1 h.1) h2).trans (h.2 m h1 h2)⟩
theorem Frm.set {n : Nat} {st : Store} {c : Cell} : Frm n st (st.set n c) := ⟨by simp, fun m _ h => List.getElem?_set_ne (Ne.symm h)⟩
@[simp] theorem at_0 {α : Type} (x : α) (l : List α) : L2.atI (x :: l) 0 = some x := by simp [L2.atI, ixN]
@[simp] theorem at_1 {α : Type} (x y : α) (l : List α) : L2.atI (x :: y :: l) 1 = some y := by
  have : (1 : Int) < (l.length : Int) + 1 + 1 := by omega
  simp [L2.atI, ixN, this]
@[simp] theorem ixN_2_0 : ixN 2 0 = some 0 := by decide
@[simp] theorem ixN_2_1 : ixN 2 1 = some 1 := by decide
theorem big_lt' {i : Int} (h0 : 0 ≤ i) (h : i < 10000000000000000000) : -big < i ∧ i < big := ⟨by unfold big; omega, by unfold big; omega⟩
theorem v_draw {n : Nat} {st : Store} {many : Int} (hp : PoolAt n st) (h1 : 1 ≤ many) (h2 : many < big) : ∃ v st', m_law_draw [.r n, dI many] st = .ok (dI v) st' ∧ PoolAt n st' ∧ Frm n st st' ∧ 0 ≤ v ∧ v < many := by
  obtain ⟨c, s, hc, hs0, hs1⟩ := hp
  have hn : n < st.length := (List.getElem?_eq_some_iff.mp hc).1
  have hm : 0 < many := by omega
  by_cases hpos : 0 < c
  · refine ⟨c % many, st.set n (.lst [dI (c / many), dI s]), ?_, ⟨c / many, s, List.getElem?_set_self hn, hs0, hs1⟩, .set, Int.emod_nonneg _ (by omega), Int.emod_lt_of_pos _ hm⟩
    simp [m_law_draw, b_law_draw, hc, hpos, hm, h2]
  · have b1 := big_lt' hs0 (by omega)
    have e1 := Int.emod_nonneg (s * 48271 + 11) (show (2147483647 : Int) ≠ 0 by decide)
    have e2 := Int.emod_lt_of_pos (s * 48271 + 11) (show (0 : Int) < 2147483647 by decide)
    have b2 := big_lt' e1 (by omega)
    refine ⟨((s * 48271 + 11) % 2147483647) * ((s * 48271 + 11) % 2147483647) % 2147483629 / 64 % many, st.set n (.lst [dI c, dI ((s * 48271 + 11) % 2147483647)]), ?_, ⟨c, _, List.getElem?_set_self hn, e1, e2⟩, .set, Int.emod_nonneg _ (show many ≠ 0 by omega), Int.emod_lt_of_pos _ hm⟩
    · have b3 : -big < (48271 : Int) ∧ (48271 : Int) < big := ⟨by unfold big; omega, by unfold big; omega⟩
      have b4 : (64 : Int) < big := by unfold big; omega
      simp [m_law_draw, b_law_draw, hc, hpos, hm, b1, b2, b3, b4, List.getElem?_set_self hn]
theorem v_choose {n : Nat} {st : Store} {l : List Py} (hp : PoolAt n st) (h1 : 1 ≤ l.length) (h2 : l.length ≤ 1000000) : ∃ x st', m_law_choose [.r n, .d (.lst l)] st = .ok (.d x) st' ∧ PoolAt n st' ∧ Frm n st st' ∧ x ∈ l := by
  obtain ⟨v, st', e, hp', hf, h3, h4⟩ := v_draw (many := l.length) hp (by omega) (by unfold big; omega)
  obtain ⟨i, rfl⟩ := Int.eq_ofNat_of_zero_le h3
  have hi : i < l.length := by omega
  refine ⟨l[i], st', ?_, hp', hf, List.getElem_mem ..⟩
  have : L2.atI l (i : Int) = some l[i] := by rw [Bj.atI_nat, List.getElem?_eq_getElem hi]
  simp [m_law_choose, b_law_choose, e, this]
theorem pool_base (c k : Int) (h0 : 0 ≤ k) (hk : k ≤ 1000) : (-18446744073709551616 : Int) < c % 2147483629 + 7919 * k * k + 31 ∧ c % 2147483629 + 7919 * k * k + 31 < 18446744073709551616 := by
  have e1 := Int.emod_nonneg c (show (2147483629 : Int) ≠ 0 by decide)
  have e2 := Int.emod_lt_of_pos c (show (0 : Int) < 2147483629 by decide)
  have e3 : k * k ≤ 1000 * 1000 := Int.mul_le_mul hk hk h0 (by omega)
  have e4 : 0 ≤ k * k := Int.mul_nonneg h0 h0
  have e5 : 7919 * k * k = 7919 * (k * k) := Int.mul_assoc ..
  omega
theorem pool_b1 : -big < (7919 : Int) ∧ (7919 : Int) < big := ⟨by unfold big; omega, by unfold big; omega⟩
theorem v_pool (ns : List Int) (k : Int) (h0 : 0 ≤ k) (hk : k ≤ 1000) (st : Store) : ∃ c s : Int, m_law_pool [.d (ints' ns), dI k] st = .ok (.r st.length) (st ++ [.lst [dI c, dI s]]) ∧ 0 ≤ s ∧ s < 2147483647 := by
  have b1 := pool_b1
  have b2 := big_lt' (i := k) (by omega) (by omega)
  have b3 := big_lt' (i := 7919 * k) (by omega) (by omega)
  have n0 : ∀ x : Int, 0 ≤ x % 2147483647 := fun x => Int.emod_nonneg x (show (2147483647 : Int) ≠ 0 by decide)
  have n1 : ∀ x : Int, x % 2147483647 < 2147483647 := fun x => Int.emod_lt_of_pos x (show (0 : Int) < 2147483647 by decide)
  by_cases h : k < ns.length
  · obtain ⟨z, e⟩ : ∃ z, L2.atI (ns.map Py.int) k = some (.int z) := by
      obtain ⟨n, rfl⟩ := Int.eq_ofNat_of_zero_le h0
      exact ⟨ns[n]'(by omega), by rw [Bj.atI_nat]; simp [show n < ns.length by omega]⟩
    have key := pool_base z k h0 hk
    by_cases hz : z < 1000000000000000000
    · exact ⟨0, (z % 2147483629 + 7919 * k * k + 31) ^ 3 % 2147483647, by simp [m_law_pool, b_law_pool, h, e, b1, b2, b3, oPow_3 _ key, hz], n0 _, n1 _⟩
    · exact ⟨z, (z % 2147483629 + 7919 * k * k + 31) ^ 3 % 2147483647, by simp [m_law_pool, b_law_pool, h, e, b1, b2, b3, oPow_3 _ key, hz], n0 _, n1 _⟩
  · have key := pool_base 0 k h0 hk
    have e0 : (0 : Int) % 2147483629 = 0 := by decide
    rw [e0, Int.zero_add] at key
    exact ⟨0, (7919 * k * k + 31) ^ 3 % 2147483647, by simp [m_law_pool, b_law_pool, h, b1, b2, b3, oPow_3 _ key], n0 _, n1 _⟩
end G37

set_option Elab.async false
set_option linter.all false
set_option maxRecDepth 100000
set_option maxHeartbeats 1000000
namespace G37
open PySem L2 Bj TL
theorem lcW_new {t : Wv → Env' → M Env'} {tt : Env' → M Bool} {te : Env' → M Wv} {env : Env'} (cl : Cell) : ∀ (l : List Py) (k : Nat) (st : Store), k + l.length ≤ 1000000 →
    (∀ x ∈ l, ∀ st, ∃ e1, t (.d x) env st = .ok e1 st ∧ tt e1 st = .ok true st ∧ te e1 st = .ok (.r st.length) (st ++ [cl])) →
    lcW t tt te env k l st = .ok ((List.range l.length).map fun i => .r (st.length + i)) (st ++ List.replicate l.length cl)
  | [], k, st, _, _ => by simp [lcW]
  | x :: l, k, st, hk, h => by
    obtain ⟨e1, h1, h2, h3⟩ := h x (List.mem_cons_self ..) st
    have hk' : k + l.length + 1 ≤ 1000000 := by simpa [Nat.add_assoc] using hk
    have ih := lcW_new cl l (k + 1) (st ++ [cl]) (by omega) fun y hy => h y (List.mem_cons_of_mem _ hy)
    have hlt : k < 1000000 := by omega
    unfold lcW
    simp [h1, h2, h3, ih, hlt]
    refine ⟨?_, by simp [List.replicate_succ]⟩
    rw [List.range_succ_eq_map]
    simp
    intro a _
    omega
/-- a square of cells -/
structure MatAt (o base n : Nat) (M : Nat → Nat → Int) (st : Store) : Prop where
  out : st[o]? = some (.lst ((List.range n).map fun i => .r (base + i)))
  row : ∀ i, i < n → st[base + i]? = some (.lst ((List.range n).map fun j => dI (M i j)))
  ob : o = base + n
def put1 (M : Nat → Nat → Int) (a b : Nat) (v : Int) : Nat → Nat → Int := fun i j => if i = a ∧ j = b then v else M i j
theorem row_set {n : Nat} (f : Nat → Int) {b : Nat} (v : Int) : ((List.range n).map fun j => dI (f j)).set b (dI v) = (List.range n).map fun j => dI (if j = b then v else f j) := by
  apply List.ext_getElem?
  intro j
  by_cases hj : b = j
  · subst hj
    by_cases hn : b < n
    · rw [List.getElem?_set_self (by simpa using hn)]
      simp [hn]
    · rw [List.getElem?_eq_none (by simpa using hn), List.getElem?_eq_none (by simpa using hn)]
  · rw [List.getElem?_set_ne hj]
    by_cases hn : j < n
    · simp [hn, Ne.symm hj]
    · rw [List.getElem?_eq_none (by simpa using hn), List.getElem?_eq_none (by simpa using hn)]
theorem MatAt.put {o base n : Nat} {M : Nat → Nat → Int} {st : Store} (m : MatAt o base n M st) {a b : Nat} (ha : a < n) (v : Int) :
    MatAt o base n (put1 M a b v) (st.set (base + a) (.lst (((List.range n).map fun j => dI (M a j)).set b (dI v)))) := by
  have hl : base + a < st.length := (List.getElem?_eq_some_iff.mp (m.row a ha)).1
  refine ⟨?_, fun i hi => ?_, m.ob⟩
  · rw [List.getElem?_set_ne (by have := m.ob; omega)]
    exact m.out
  · by_cases h : i = a
    · subst h
      rw [List.getElem?_set_self hl, row_set]
      congr 3
      funext j
      simp [put1]
    · rw [List.getElem?_set_ne (by omega), m.row i hi]
      congr 3
      funext j
      simp [put1, h]
theorem frz_rows {n base : Nat} {M : Nat → Nat → Int} : ∀ (k i : Nat) (st : Store), i + k = n → (∀ j, i ≤ j → j < n → st[base + j]? = some (.lst ((List.range n).map fun c => dI (M j c)))) →
    ∃ st', frzAll ((List.range' i k).map fun j => .r (base + j)) st = .ok ((List.range' i k).map fun j => ints' ((List.range n).map fun c => M j c)) st' ∧ st'.length = st.length ∧ ∀ m, m < base + i ∨ base + n ≤ m → st'[m]? = st[m]?
  | 0, i, st, _, _ => ⟨st, rfl, rfl, fun _ _ => rfl⟩
  | k + 1, i, st, h, hr => by
    have hl : base + i < st.length := (List.getElem?_eq_some_iff.mp (hr i (Nat.le_refl _) (by omega))).1
    obtain ⟨st', h1, h2, h3⟩ := frz_rows (n := n) (base := base) (M := M) k (i + 1) (st.set (base + i) .dead) (by omega) fun j h4 h5 => by
      rw [List.getElem?_set_ne (by omega)]
      exact hr j (by omega) h5
    refine ⟨st', ?_, by rw [h2, List.length_set], fun m hm => ?_⟩
    · rw [List.range'_succ, List.map_cons, List.map_cons]
      unfold frzAll
      have e1 : frz1 (.r (base + i)) st = .ok (ints' ((List.range n).map fun c => M i c)) (st.set (base + i) .dead) := by
        have e2 : allD ((List.range n).map fun c => dI (M i c)) = some (((List.range n).map fun c => M i c).map Py.int) := by
          rw [← allD_map]
          congr 1
          simp
        unfold frz1
        simp [hr i (Nat.le_refl _) (by omega), -List.map_map, e2]
      simp only [bnd_ap, e1, h1, ret_ap]
    · rw [h3 m (by omega), List.getElem?_set_ne (by omega)]
theorem v_law_rows {p n : Nat} {st : Store} (hp : PoolAt p st) (h1 : 1 ≤ n) (h8 : n ≤ 8) : ∃ M st', m_law_rows [.r p, dI n] st = .ok (.d (rowsP (mat n M))) st' ∧ Good n M ∧ PoolAt p st' ∧ Frm p st st' := by
  have hpl : p < st.length := by obtain ⟨c, s, hc, _⟩ := hp; exact (List.getElem?_eq_some_iff.mp hc).1
  have b1 : (-4000000000000000000 : Int) ≤ n := by omega
  have b2 : (n : Int) ≤ 4000000000000000000 := by omega
  have b3 : (-1000000 : Int) ≤ n ∧ (n : Int) ≤ 1000000 ∧ n ≤ 1000000 := by omega
  have b4 : (1 : Int) ≤ n ∧ (n : Int) < big := ⟨by omega, by unfold big; omega⟩
  -- the cells
  obtain ⟨st1, es1⟩ : ∃ st1 : Store, st1 = st ++ List.replicate n (.lst (List.replicate n (dI 0))) ++ [.lst ((List.range n).map fun i => .r (st.length + i))] := ⟨_, rfl⟩
  have hz : PoolAt p st1 := by
    obtain ⟨c, s, hc, hs⟩ := hp
    exact ⟨c, s, by rw [es1, List.append_assoc, List.getElem?_append_left hpl]; exact hc, hs⟩
  have hF : Frm p st st1 := ⟨by simp [es1], fun m h1 _ => by rw [es1, List.append_assoc, List.getElem?_append_left h1]⟩
  have hM : MatAt (st.length + n) st.length n (fun _ _ => 0) st1 := by
    refine ⟨?_, fun i hi => ?_, rfl⟩
    · rw [es1, List.getElem?_append_right (by simp)]
      simp
    · rw [es1, List.append_assoc, List.getElem?_append_right (by omega), List.getElem?_append_left (by simp; omega)]
      have e : (List.range n).map (fun _ => dI 0) = List.replicate n (dI 0) := by rw [List.map_const', List.length_range]
      simp [hi, e]
  have hG : Good n (fun _ _ => 0) := ⟨fun _ _ => rfl, fun _ _ _ _ => Int.le_refl _, fun _ _ _ _ => by omega⟩
  -- the inner loop
  have inner : ∀ (a : Nat), a < n → ∀ (l : List Py) (env : Env') (st2 : Store), (∀ x ∈ l, ∃ b : Nat, b < n ∧ x = .int b) →
      (∃ M o4 o5, env = [some (.r p), some (dI n), some (.r (st.length + n)), some (dI a), o4, o5] ∧ Good n M ∧ MatAt (st.length + n) st.length n M st2 ∧ PoolAt p st2 ∧ Frm p st st2) →
      ∃ e2 st3, forL (mSet 4) b_law_rows_L0 l env st2 = .ok (.nx e2) st3 ∧
        (∃ M o4 o5, e2 = [some (.r p), some (dI n), some (.r (st.length + n)), some (dI a), o4, o5] ∧ Good n M ∧ MatAt (st.length + n) st.length n M st3 ∧ PoolAt p st3 ∧ Frm p st st3) := by
    intro a ha l env st2 hl hI
    obtain ⟨e2, st3, h1, h2⟩ := forL_inv (t := mSet 4) (b := b_law_rows_L0)
      (fun l env st2 => (∀ x ∈ l, ∃ b : Nat, b < n ∧ x = .int b) ∧ ∃ M o4 o5, env = [some (.r p), some (dI n), some (.r (st.length + n)), some (dI a), o4, o5] ∧ Good n M ∧ MatAt (st.length + n) st.length n M st2 ∧ PoolAt p st2 ∧ Frm p st st2)
      l env st2 ⟨hl, hI⟩ (by
        rintro x l env st2 ⟨hl, M, o4, o5, rfl, g, m, hp2, hf2⟩
        obtain ⟨b, hb, rfl⟩ := hl _ (List.mem_cons_self ..)
        obtain ⟨v, st3, hd, hp3, hf3, hv0, hv1⟩ := v_draw hp2 b4.1 b4.2
        have hst : st.length ≤ st2.length := hf2.1
        have m3 : MatAt (st.length + n) st.length n M st3 := ⟨by
          rw [hf3.2 _ (List.getElem?_eq_some_iff.mp m.out).1 (by omega)]; exact m.out, fun i hi => by
          rw [hf3.2 _ (List.getElem?_eq_some_iff.mp (m.row i hi)).1 (by omega)]; exact m.row i hi, rfl⟩
        have m4 := m3.put (b := b) ha v
        have m5 := m4.put (b := a) hb v
        have f3 := hf2.trans hf3
        refine ⟨[some (.r p), some (dI n), some (.r (st.length + n)), some (dI a), some (dI b), o5], [some (.r p), some (dI n), some (.r (st.length + n)), some (dI a), some (dI b), some (dI v)], st2, _, by simp, .inl ?_,
          fun x hx => hl x (List.mem_cons_of_mem _ hx), put1 (put1 M a b v) b a v, _, _, rfl, ?_, m5, ?_, ?_⟩
        · have i1 : L2.atI ((List.range n).map fun i => Wv.r (st.length + i)) (a : Int) = some (.r (st.length + a)) := by rw [Bj.atI_nat]; simp [ha]
          have i2 : L2.atI ((List.range n).map fun i => Wv.r (st.length + i)) (b : Int) = some (.r (st.length + b)) := by rw [Bj.atI_nat]; simp [hb]
          simp only [b_law_rows_L0]
          simp [hd, m3.out, m3.row a ha, m4.out, m4.row b hb, i1, i2, ixN_nat ha, ixN_nat hb]
        · refine ⟨fun i j => ?_, fun i j hi hj => ?_, fun i j hi hj => ?_⟩
          · unfold put1
            have := g.sym i j
            by_cases h1 : i = a <;> by_cases h2 : j = b <;> by_cases h3 : i = b <;> by_cases h4 : j = a <;> simp_all
          · unfold put1
            have := g.lo i j hi hj
            split
            · exact hv0
            · split
              · exact hv0
              · exact this
          · unfold put1
            have := g.hi i j hi hj
            split
            · exact hv1
            · split
              · exact hv1
              · exact this
        · obtain ⟨c, s, hc, hs⟩ := hp3
          exact ⟨c, s, by rw [List.getElem?_set_ne (by omega), List.getElem?_set_ne (by omega)]; exact hc, hs⟩
        · refine ⟨by simp; exact f3.1, fun q h1 h2 => ?_⟩
          rw [List.getElem?_set_ne (by omega), List.getElem?_set_ne (by omega)]
          exact f3.2 q h1 h2)
    exact ⟨e2, st3, h1, h2.2⟩
  -- the outer loop
  obtain ⟨e2, st3, ho1, _, M, o3, o4, o5, rfl, g, m, hp3, hf3⟩ := forL_inv (t := mSet 3) (b := b_law_rows_L1)
    (fun l env st2 => (∀ x ∈ l, ∃ b : Nat, b < n ∧ x = .int b) ∧ ∃ M o3 o4 o5, env = [some (.r p), some (dI n), some (.r (st.length + n)), o3, o4, o5] ∧ Good n M ∧ MatAt (st.length + n) st.length n M st2 ∧ PoolAt p st2 ∧ Frm p st st2)
    (rng 0 n) [some (.r p), some (dI n), some (.r (st.length + n)), none, none, none] st1
    ⟨fun x hx => by
      rw [rng_nat] at hx
      obtain ⟨b, hb, rfl⟩ := List.mem_map.mp hx
      exact ⟨b, List.mem_range.mp hb, rfl⟩, _, _, _, _, rfl, hG, hM, hz, hF⟩ (by
      rintro x l env st2 ⟨hl, M, o3, o4, o5, rfl, g, m, hp2, hf2⟩
      obtain ⟨a, ha, rfl⟩ := hl _ (List.mem_cons_self ..)
      obtain ⟨e3, st3, hi1, M', o4', o5', rfl, g', m', hp', hf'⟩ := inner a ha (rng a n) [some (.r p), some (dI n), some (.r (st.length + n)), some (dI a), o4, o5] st2 (fun x hx => by
        rw [rng_from] at hx
        obtain ⟨b, hb, rfl⟩ := List.mem_map.mp hx
        have := List.mem_range.mp hb
        exact ⟨a + b, by omega, rfl⟩) ⟨M, _, _, rfl, g, m, hp2, hf2⟩
      have c1 : (-4000000000000000000 : Int) ≤ a := by omega
      have c2 : (a : Int) ≤ 4000000000000000000 := by omega
      refine ⟨[some (.r p), some (dI n), some (.r (st.length + n)), some (dI a), o4, o5], [some (.r p), some (dI n), some (.r (st.length + n)), some (dI a), o4', o5'], st2, st3, by simp, .inl ?_, fun x hx => hl x (List.mem_cons_of_mem _ hx), M', _, _, _, rfl, g', m', hp', hf'⟩
      simp only [b_law_rows_L1, mFor, mR2, mCons, mVar, mNil, mSet] at hi1 ⊢
      simp [b1, b2, c1, c2, hi1])
  -- frozen
  obtain ⟨st4, hz1, hz2, hz3⟩ := frz_rows (M := M) n 0 st3 (by omega) fun j _ hj => m.row j hj
  have hol : st.length + n < st3.length := (List.getElem?_eq_some_iff.mp m.out).1
  refine ⟨M, st4.set (st.length + n) .dead, ?_, g, ?_, ?_⟩
  · have e1 : lcW (mSet 3) mYes (m2 oMulC (mL oLst (mCons (mC (.int 0)) mNil)) (mVar 1)) [some (.r p), some (dI n), none, none, none, none] 0 (rng 0 n) st =
        .ok ((List.range n).map fun i => .r (st.length + i)) (st ++ List.replicate n (.lst (List.replicate n (dI 0)))) := by
      have := lcW_new (t := mSet 3) (tt := mYes) (te := m2 oMulC (mL oLst (mCons (mC (.int 0)) mNil)) (mVar 1)) (env := [some (.r p), some (dI n), none, none, none, none]) (.lst (List.replicate n (dI 0))) (rng 0 n) 0 st (by rw [rng_nat]; simp; omega) (fun x hx st => ⟨_, rfl, rfl, by
        rw [rng_nat] at hx
        obtain ⟨b, hb, rfl⟩ := List.mem_map.mp hx
        simp [oMulC, b3]⟩)
      rw [this, rng_nat]
      simp
    have e2 : ∀ st : Store, frz2 (.r n) st = frz2 (.r n) st := fun _ => rfl
    have e3 : frz2 (.r (st.length + n)) st3 = .ok (rowsP (mat n M)) (st4.set (st.length + n) .dead) := by
      unfold frz2
      simp only [m.out]
      rw [List.range_eq_range']
      simp only [bnd_ap, hz1]
      rw [← List.range_eq_range']
      simp [mat, rowsP]
    simp only [m_law_rows, b_law_rows, fnM]
    simp [mLcC, wipeV, b1, b2, -mSet, -mYes, -m2]
    have el : (st ++ List.replicate n (Cell.lst (List.replicate n (dI 0)))).length = st.length + n := by simp
    rw [e1]
    simp only [newLC, el, ← es1]
    simp [b1, b2, ho1, e3]
  · obtain ⟨c, s, hc, hs⟩ := hp3
    exact ⟨c, s, by rw [List.getElem?_set_ne (by omega), hz3 p (by omega)]; exact hc, hs⟩
  · refine ⟨by rw [List.length_set, hz2]; exact hf3.1, fun q h1 h2 => ?_⟩
    rw [List.getElem?_set_ne (by omega), hz3 q (by omega)]
    exact hf3.2 q h1 h2
end G37

set_option Elab.async false
set_option linter.all false
set_option maxRecDepth 100000
set_option maxHeartbeats 2000000
namespace G37
open PySem L2 Bj TL
/-- rows made by a double comprehension -/
theorem kind_lc {n : Nat} {te : Env' → M Wv} (h8 : n ≤ 8) (F : Int → Int → Int) {p w : Wv} {st : Store}
    (h : ∀ a b : Int, 0 ≤ a → 0 ≤ b → a < n → b < n → te [some p, some (dI n), some w, some (dI a), some (dI b)] st = .ok (dI (F a b)) st) :
    mLc [3] (mR1 (mCons (mVar 1) mNil)) (mSet 3) mYes (mLc [4] (mR1 (mCons (mVar 1) mNil)) (mSet 4) mYes te) [some p, some (dI n), some w, none, none] st = .ok (.d (rowsP (mat n fun a b => F a b))) st := by
  have b1 : (-4000000000000000000 : Int) ≤ n := by omega
  have b2 : (n : Int) ≤ 4000000000000000000 := by omega
  simp [mLc, wipeV, b1, b2, rng_nat]
  rw [lcL_of (fun (a : Nat) => .int (a : Int)) (fun a => ints' ((List.range n).map fun (b : Nat) => F a b)) _ _ (by simp; omega) (fun a ha => ⟨[some p, some (dI n), some w, some (dI a), none], by simp, by simp, by
    simp [mLc, wipeV, b1, b2, rng_nat]
    rw [lcL_of (fun (b : Nat) => .int (b : Int)) (fun (b : Nat) => .int (F a b)) _ _ (by simp; omega) (fun b hb => ⟨[some p, some (dI n), some w, some (dI a), some (dI b)], by simp, by simp, h a b (by omega) (by omega) (by have := List.mem_range.mp ha; omega) (by have := List.mem_range.mp hb; omega)⟩)]
    simp⟩)]
  simp [mat]
theorem te_0 (N a b : Int) (hN : 0 < N) (p w : Wv) (st : Store) : (m2 oMod (m2 oAdd (mVar 3) (mVar 4)) (mVar 1)) [some p, some (dI N), some w, some (dI a), some (dI b)] st = .ok (dI ((a + b) % N)) st := by simp [hN]
theorem te_1 (N a b : Int) (p w : Wv) (st : Store) : (mL (f2 oMax2) (mCons (mVar 3) (mCons (mVar 4) mNil))) [some p, some (dI N), some w, some (dI a), some (dI b)] st = .ok (dI (if b > a then b else a)) st := by simp
theorem te_2 (N a b : Int) (p w : Wv) (st : Store) : (mL (f2 oMin2) (mCons (m2 oAdd (mVar 3) (mVar 4)) (mCons (m2 oSub (mVar 1) (mC (.int 1))) mNil))) [some p, some (dI N), some w, some (dI a), some (dI b)] st = .ok (dI (if N - 1 < a + b then N - 1 else a + b)) st := by simp
theorem te_3 (N a b : Int) (hN : 0 < N) (h1 : -big < a ∧ a < big) (h2 : -big < b ∧ b < big) (p w : Wv) (st : Store) : (m2 oMod (m2 oMul (mVar 3) (mVar 4)) (mVar 1)) [some p, some (dI N), some w, some (dI a), some (dI b)] st = .ok (dI ((a * b) % N)) st := by simp [hN, h1, h2]
theorem kind_run {p n : Nat} {st st1 : Store} {R : List (List Int)} (N : Int) (k : Int) (b : Env' → M Wv)
    (hd : m_law_draw [.r p, dI 6] st = .ok (dI k) st1) (hb : b [some (.r p), some (dI N), some (dI k), none, none] st1 = .ok (.d (rowsP R)) st1)
    (hk : (k = 0 ∧ b = mLc [3] (mR1 (mCons (mVar 1) mNil)) (mSet 3) mYes (mLc [4] (mR1 (mCons (mVar 1) mNil)) (mSet 4) mYes (m2 oMod (m2 oAdd (mVar 3) (mVar 4)) (mVar 1)))) ∨
      (k = 1 ∧ b = mLc [3] (mR1 (mCons (mVar 1) mNil)) (mSet 3) mYes (mLc [4] (mR1 (mCons (mVar 1) mNil)) (mSet 4) mYes (mL (f2 oMax2) (mCons (mVar 3) (mCons (mVar 4) mNil))))) ∨
      (k = 2 ∧ b = mLc [3] (mR1 (mCons (mVar 1) mNil)) (mSet 3) mYes (mLc [4] (mR1 (mCons (mVar 1) mNil)) (mSet 4) mYes (mL (f2 oMin2) (mCons (m2 oAdd (mVar 3) (mVar 4)) (mCons (m2 oSub (mVar 1) (mC (.int 1))) mNil))))) ∨
      (k = 3 ∧ b = mLc [3] (mR1 (mCons (mVar 1) mNil)) (mSet 3) mYes (mLc [4] (mR1 (mCons (mVar 1) mNil)) (mSet 4) mYes (m2 oMod (m2 oMul (mVar 3) (mVar 4)) (mVar 1))))) : m_law_kind [.r p, dI N] st = .ok (.d (rowsP R)) st1 := by
  rcases hk with ⟨rfl, rfl⟩ | ⟨rfl, rfl⟩ | ⟨rfl, rfl⟩ | ⟨rfl, rfl⟩ <;> simp [m_law_kind, b_law_kind, hd, hb]
theorem kind_rows {p : Nat} {st st1 st2 : Store} {R : Py} (N k : Int) (h0 : k ≠ 0) (h1 : k ≠ 1) (h2 : k ≠ 2) (h3 : k ≠ 3)
    (hd : m_law_draw [.r p, dI 6] st = .ok (dI k) st1) (hr : m_law_rows [.r p, dI N] st1 = .ok (.d R) st2) : m_law_kind [.r p, dI N] st = .ok (.d R) st2 := by
  simp [m_law_kind, b_law_kind, hd, h0, h1, h2, h3, hr]
theorem v_law_kind {p n : Nat} {st : Store} (hp : PoolAt p st) (h1 : 1 ≤ n) (h8 : n ≤ 8) : ∃ M st', m_law_kind [.r p, dI n] st = .ok (.d (rowsP (mat n M))) st' ∧ Good n M ∧ PoolAt p st' ∧ Frm p st st' := by
  obtain ⟨w, st1, hd, hp1, hf1, hw0, hw1⟩ := v_draw (many := 6) hp (by decide) (by unfold big; omega)
  have hn : (0 : Int) < n := by omega
  by_cases w0 : w = 0
  · have := kind_lc h8 (fun a b => (a + b) % n) (p := .r p) (w := dI w) (st := st1) (fun a b _ _ _ _ => te_0 n a b hn _ _ _)
    exact ⟨_, st1, kind_run (n := n) n w _ hd this (.inl ⟨w0, rfl⟩), ⟨fun a b => by rw [Int.add_comm], fun a b _ _ => Int.emod_nonneg _ (by omega), fun a b _ _ => Int.emod_lt_of_pos _ hn⟩, hp1, hf1⟩
  · by_cases w1 : w = 1
    · have := kind_lc h8 (fun a b => if b > a then b else a) (p := .r p) (w := dI w) (st := st1) (fun a b _ _ _ _ => te_1 n a b _ _ _)
      exact ⟨_, st1, kind_run (n := n) n w _ hd this (.inr (.inl ⟨w1, rfl⟩)), ⟨fun a b => by split <;> split <;> omega, fun a b _ _ => by split <;> omega, fun a b _ _ => by split <;> omega⟩, hp1, hf1⟩
    · by_cases w2 : w = 2
      · have := kind_lc h8 (fun a b => if (n : Int) - 1 < a + b then (n : Int) - 1 else a + b) (p := .r p) (w := dI w) (st := st1) (fun a b _ _ _ _ => te_2 n a b _ _ _)
        exact ⟨_, st1, kind_run (n := n) n w _ hd this (.inr (.inr (.inl ⟨w2, rfl⟩))), ⟨fun a b => by rw [Int.add_comm], fun a b _ _ => by split <;> omega, fun a b _ _ => by split <;> omega⟩, hp1, hf1⟩
      · by_cases w3 : w = 3
        · have := kind_lc h8 (fun a b => (a * b) % n) (p := .r p) (w := dI w) (st := st1) (fun a b a0 b0 a1 b1 => te_3 n a b hn (big_lt' a0 (by omega)) (big_lt' b0 (by omega)) _ _ _)
          exact ⟨_, st1, kind_run (n := n) n w _ hd this (.inr (.inr (.inr ⟨w3, rfl⟩))), ⟨fun a b => by rw [Int.mul_comm], fun a b _ _ => Int.emod_nonneg _ (by omega), fun a b _ _ => Int.emod_lt_of_pos _ hn⟩, hp1, hf1⟩
        · obtain ⟨M, st2, e, g, hp2, hf2⟩ := v_law_rows hp1 h1 h8
          exact ⟨M, st2, kind_rows n w w0 w1 w2 w3 hd e, g, hp2, hf1.trans hf2⟩
/-! ### the texts that the law makes -/
theorem law_tabT (R : List (List Int)) (hR : R.length ≤ 8) (h : ∀ r ∈ R, r.length ≤ 8 ∧ ∀ i ∈ r, ok60 i) {env : Env'} (e4 : env[4]? = some (some (.d (rowsP R)))) (hl : env.length = 14) (st : Store) :
    (mS1 oJoin (mC (.str "\n")) (mLc [10] (mIt frzD (mVar 4)) (mSet 10) mYes (mS1 oJoin (mC (.str " ")) (mLc [9] (mIt frzD (mVar 10)) (mSet 9) mYes (mL (f1 oStr) (mCons (mVar 9) mNil)))))) env st = .ok (.d (.str (tabT R))) st := by
  have hs := tab_sum hR h
  simp [mLc, wipeV, e4]
  rw [lcL_of (fun r => ints' r) (fun r => .str (rowT r)) _ _ (by omega) (fun r hr => ⟨(env.set 10 none).set 10 (some (.d (ints' r))), by simp, by simp, by
    have hr' := h r hr
    have e10 : (env.set 10 (some (.d (ints' r))))[10]? = some (some (.d (ints' r))) := List.getElem?_set_self (by simp [hl])
    have hz := sum_le (fun i => (dec i).length) 60 r fun i hi => dec_len (hr'.2 i hi)
    simp [e10, mLc, wipeV]
    rw [lcL_of (fun i => .int i) (fun i => .str (dec i)) _ _ (by omega) (fun i hi => ⟨_, rfl, rfl, by
      have : ((((env.set 10 none).set 10 (some (.d (ints' r)))).set 9 none).set 9 (some (dI i)))[9]? = some (some (dI i)) := List.getElem?_set_self (by simp [hl])
      simp [ok60_big (hr'.2 i hi), dec, hl]⟩)]
    have e : (r.map fun i => Py.str (dec i)) = (r.map dec).map .str := by simp
    rw [e]
    have hz' : ((r.map dec).map fun x => x.length).sum + r.length * Str.length " " ≤ 1000000 := by
      rw [sepB.len, List.map_map]
      have e : ((fun x : Str => x.length) ∘ dec) = fun i => (dec i).length := rfl
      rw [e]
      omega
    simp [-List.map_map, hz', rowT]⟩)]
  have e : (R.map fun r => Py.str (rowT r)) = (R.map rowT).map .str := by simp
  rw [e]
  simp [-List.map_map, hs, tabT]
end G37

set_option Elab.async false
set_option linter.all false
set_option maxRecDepth 100000
set_option maxHeartbeats 2000000
namespace G37
open PySem L2 Bj TL
theorem sq_nx {a b : Env' → M Fl} {env e : Env'} {st st1 : Store} (h : a env st = .ok (.nx e) st1) : sq a b env st = b e st1 := by simp [sq, h]
theorem asg_ok {m : Env' → M Wv} {i : Nat} {env : Env'} {st st1 : Store} {w : Wv} (h : m env st = .ok w st1) : mAsg m (mSet i) env st = .ok (.nx (env.set i (some w))) st1 := by simp [h]
theorem if_no {c : Env' → M Bool} {a b : Env' → M Fl} {env : Env'} {st st1 : Store} (h : c env st = .ok false st1) : mIfS c a b env st = b env st1 := by simp [h]
theorem tabT_ok {R : List (List Int)} (h : ∀ r ∈ R, ∀ i ∈ r, ok60 i) : PyData.strOk (tabT R) = true := strOk_iff.mpr fun c hc => by
  rcases mem_join hc with h1 | ⟨q, h1, h2⟩
  · rw [sepN.e] at h1; simp at h1; omega
  · obtain ⟨r, hr, rfl⟩ := List.mem_map.mp h1
    by_cases hc2 : c < 0x110000
    · exact hc2
    · exact absurd h2 (rowT_free (h r hr) ⟨by omega, by omega⟩)
theorem rowT_ok {r : List Int} (h : ∀ i ∈ r, ok60 i) : PyData.strOk (rowT r) = true := strOk_iff.mpr fun c hc => by
  by_cases hc2 : c < 0x110000
  · exact hc2
  · exact absurd hc (rowT_free h ⟨by omega, by omega⟩)
theorem ne_same {x : Py} (h : okD 20 x = true) (st : Store) : oNe (.d x) (.d x) st = .ok (.d (.bl false)) st := by
  rw [oNe_ok h h, eqP_refl]; rfl
theorem own_ne (c : Nat) (m : List Wv → M Wv) (fs gs : List (Str × Py)) (st : Store) (b : Bool) (h : m [.d (.obj c fs), .d (.obj c gs)] st = .ok (.d (.bl b)) st) :
    orOwn c m true oNe (.d (.obj c fs)) (.d (.obj c gs)) st = .ok (.d (.bl (!b))) st := by
  simp [orOwn, oOwn, h]
theorem own_eq (c : Nat) (m : List Wv → M Wv) (fs gs : List (Str × Py)) (st : Store) (b : Bool) (h : m [.d (.obj c fs), .d (.obj c gs)] st = .ok (.d (.bl b)) st) :
    orOwn c m false oEq (.d (.obj c fs)) (.d (.obj c gs)) st = .ok (.d (.bl b)) st := by
  simp [orOwn, oOwn, h]
/-- the first check -/
theorem chk_table {n : Nat} {M : Nat → Nat → Int} (g : Good n M) (h1 : 1 ≤ n) (h8 : n ≤ 8) {env : Env'} (e4 : env[4]? = some (some (.d (rowsP (mat n M))))) (e5 : env[5]? = some (some (.d (.str (tabT (mat n M)))))) (st : Store) :
    (mOr (asB (m2 oNe (mL m_format_table (mCons (mL (newF 1 m_Table__init) (mCons (mVar 4) mNil)) mNil)) (mVar 5))) (asB (m2 (orOwn 1 m_Table__eq true oNe) (mL m_parse_table (mCons (mVar 5) mNil)) (mL (newF 1 m_Table__init) (mCons (mVar 4) mNil))))) env st = .ok false st := by
  have hr : ∀ r ∈ mat n M, r.length ≤ 8 ∧ ∀ i ∈ r, ok60 i := fun r hr => ⟨by rw [(g.ok h8 hr).1]; exact h8, (g.ok h8 hr).2⟩
  have a1 := v_Table n M g st h1 h8
  have a2 := v_format_table (mat n M) (by rw [mat_len]; exact h8) hr st
  have a3 := ne_same (x := .str (tabT (mat n M))) (by simpa using tabT_ok fun r h => (hr r h).2) st
  have a4 := v_parse_table n M g st h1 h8
  have a5 := own_ne 1 m_Table__eq _ _ st true (v_Table_eq n M st)
  simp [e4, e5, a1, a2, a3, a4, a5]
theorem chk_jar {l : List Int} (h : ∀ i ∈ l, ok60 i) (h1 : 1 ≤ l.length) (h8 : l.length ≤ 8) {env : Env'} (e6 : env[6]? = some (some (.d (ints' l)))) (e5 : env[5]? = some (some (.d (.str (rowT l))))) (st : Store) :
    (mOr (asB (m2 oNe (mL m_format_jar (mCons (mL (newF 0 m_Jar__init) (mCons (mVar 6) mNil)) mNil)) (mVar 5))) (asB (m2 (orOwn 0 m_Jar__eq true oNe) (mL m_parse_jar (mCons (mVar 5) mNil)) (mL (newF 0 m_Jar__init) (mCons (mVar 6) mNil))))) env st = .ok false st := by
  have a1 := v_Jar l st (fun i hi => (h i hi).1) h1 h8
  have a2 := v_format_jar l st h (by omega)
  have a3 := ne_same (x := .str (rowT l)) (by simpa using rowT_ok h) st
  have a4 := v_parse_jar l st h h1 h8
  have a5 := own_ne 0 m_Jar__eq _ _ st _ (v_Jar_eq l l st)
  rw [decide_eq_true rfl] at a5
  simp only [rowT] at a3 e5
  simp [e6, e5, a1, a2, a3, a4, a5]
theorem chk_way {W : List (Int × Int)} (h : ∀ p ∈ W, okW p) (hW : W.length ≤ 20) {env : Env'} (e7 : env[7]? = some (some (.d (.lst (W.map drawP))))) (e5 : env[5]? = some (some (.d (.str (wayT W))))) (st : Store) :
    (mOr (asB (m2 oNe (mL m_format_way (mCons (mVar 7) mNil)) (mVar 5))) (asB (m2 oNe (mL m_parse_way (mCons (mVar 5) mNil)) (mVar 7)))) env st = .ok false st := by
  have a2 := v_format_way W hW h st
  have a3 := ne_same (x := .str (wayT W)) (by simpa using wayT_ok h) st
  have hk : okD 20 (.lst (W.map drawP)) = true := by
    show okDs 19 (W.map drawP) = true
    exact okDs_of fun x hx => by
      obtain ⟨p, _, rfl⟩ := List.mem_map.mp hx
      rfl
  have a6 := ne_same hk st
  have a4 : m_parse_way [.d (.str (wayT W))] st = .ok (.d (.lst (W.map drawP))) st := by
    by_cases hne : W = []
    · subst hne
      exact v_parse_way0 st
    · exact v_parse_way W hne hW h st
  simp [-List.map_map, e7, e5, a2, a3, a4, a6]
/-- the counts -/
theorem v_elem {p : Nat} {st : Store} (hp : PoolAt p st) {env : Env'} (e2 : env[2]? = some (some (.r p))) :
    ∃ c st', (mL m_law_choose (mCons (mVar 2) (mCons (mL oLst (mCons (mC (.int 0)) (mCons (mC (.int 7)) (mCons (m2 oAdd (m2 oPow (mC (.int 10)) (mC (.int 59))) (mL m_law_draw (mCons (mVar 2) (mCons (mC (.int 9)) mNil)))) (mCons (mL m_law_draw (mCons (mVar 2) (mCons (m2 oPow (mC (.int 10)) (mC (.int 30))) mNil))) mNil))))) mNil))) env st = .ok (dI c) st' ∧
      ok60 c ∧ PoolAt p st' ∧ Frm p st st' := by
  obtain ⟨v1, s1, d1, p1, f1', g1, g2⟩ := v_draw (many := 9) hp (by decide) (by unfold big; omega)
  obtain ⟨v2, s2, d2, p2, f2', g3, g4⟩ := v_draw (many := 1000000000000000000000000000000) p1 (by omega) (by unfold big; omega)
  obtain ⟨x, s3, d3, p3, f3', hx⟩ := v_choose (l := [.int 0, .int 7, .int (100000000000000000000000000000000000000000000000000000000000 + v1), .int v2]) p2 (by simp) (by simp)
  have e1 : oPow (.d (.int 10)) (.d (.int 59)) = ret (dI 100000000000000000000000000000000000000000000000000000000000) := (oPow_10 59 (by decide)).trans (by congr 3 <;> decide)
  have e3 : oPow (.d (.int 10)) (.d (.int 30)) = ret (dI 1000000000000000000000000000000) := (oPow_10 30 (by decide)).trans (by congr 3 <;> decide)
  have hc : ∃ c, x = .int c ∧ ok60 c := by
    have hb : (10 : Int) ^ 60 = 1000000000000000000000000000000000000000000000000000000000000 := by decide
    simp only [List.mem_cons, List.not_mem_nil, or_false] at hx
    unfold ok60
    rw [hb]
    rcases hx with rfl | rfl | rfl | rfl
    · exact ⟨0, rfl, by omega, by omega⟩
    · exact ⟨7, rfl, by omega, by omega⟩
    · exact ⟨_, rfl, by omega, by omega⟩
    · exact ⟨_, rfl, by omega, by omega⟩
  obtain ⟨c, rfl, hc⟩ := hc
  refine ⟨c, s3, ?_, hc, p3, (f1'.trans f2').trans f3'⟩
  simp [e2, e1, e3, d1, d2, d3]
end G37

set_option Elab.async false
set_option linter.all false
set_option maxRecDepth 100000
set_option maxHeartbeats 2000000
namespace G37
open PySem L2 Bj TL
theorem paired_ints {R : Py → Py → Prop} : ∀ {l ys : List Py}, Paired R l ys → (∀ x y, R x y → ∃ c : Int, y = .int c ∧ ok60 c) → ∃ C : List Int, ys = C.map .int ∧ C.length = l.length ∧ ∀ c ∈ C, ok60 c
  | _, _, .nil, _ => ⟨[], rfl, rfl, fun _ h => nomatch h⟩
  | _, _, .cons r t, h => by
    obtain ⟨c, rfl, hc⟩ := h _ _ r
    obtain ⟨C, rfl, hl, hC⟩ := paired_ints t h
    exact ⟨c :: C, rfl, by simp [hl], fun d hd => by
      rcases List.mem_cons.mp hd with rfl | hd
      · exact hc
      · exact hC d hd⟩
abbrev elemM : Env' → M Wv := mL m_law_choose (mCons (mVar 2) (mCons (mL oLst (mCons (mC (.int 0)) (mCons (mC (.int 7)) (mCons (m2 oAdd (m2 oPow (mC (.int 10)) (mC (.int 59))) (mL m_law_draw (mCons (mVar 2) (mCons (mC (.int 9)) mNil)))) (mCons (mL m_law_draw (mCons (mVar 2) (mCons (m2 oPow (mC (.int 10)) (mC (.int 30))) mNil))) mNil))))) mNil))
theorem v_counts {p n : Nat} {st : Store} (hp : PoolAt p st) (h8 : n ≤ 8) {env : Env'} (hl : env.length = 14) (e2 : env[2]? = some (some (.r p))) (e3 : env[3]? = some (some (dI n))) :
    ∃ C st', mLc [9] (mR1 (mCons (mVar 3) mNil)) (mSet 9) mYes elemM env st = .ok (.d (ints' C)) st' ∧ C.length = n ∧ (∀ c ∈ C, ok60 c) ∧ PoolAt p st' ∧ Frm p st st' := by
  have b1 : (-4000000000000000000 : Int) ≤ n := by omega
  have b2 : (n : Int) ≤ 4000000000000000000 := by omega
  obtain ⟨ys, st', h1, ⟨hp', hf'⟩, hR⟩ := lcL_inv (t := mSet 9) (tt := mYes) (te := elemM) (env := wipeV env [9]) (fun st' => PoolAt p st' ∧ Frm p st st') (fun _ y => ∃ c : Int, y = .int c ∧ ok60 c) (rng 0 n) 0 st (by rw [rng_nat]; simp; omega) ⟨hp, .refl⟩ (by
    rintro x hx st1 ⟨hp1, hf1⟩
    have e2' : ((wipeV env [9]).set 9 (some (.d x)))[2]? = some (some (.r p)) := by simp [wipeV, e2]
    obtain ⟨c, st2, h1, h2, h3, h4⟩ := v_elem hp1 e2'
    exact ⟨(wipeV env [9]).set 9 (some (.d x)), .int c, st2, by simp, by simp, h1, ⟨h3, hf1.trans h4⟩, c, rfl, h2⟩)
  obtain ⟨C, rfl, hC, hCo⟩ := paired_ints hR fun _ _ h => h
  refine ⟨C, st', ?_, by rw [hC, rng_nat]; simp, hCo, hp', hf'⟩
  simp only [mLc]
  simp [e3, b1, b2, -mSet, -mYes, h1]
theorem law_rowT (r : List Int) (hr : r.length ≤ 8) (h : ∀ i ∈ r, ok60 i) {env : Env'} (e6 : env[6]? = some (some (.d (ints' r)))) (hl : env.length = 14) (st : Store) :
    (mS1 oJoin (mC (.str " ")) (mLc [11] (mIt frzD (mVar 6)) (mSet 11) mYes (mL (f1 oStr) (mCons (mVar 11) mNil)))) env st = .ok (.d (.str (rowT r))) st := by
  have hz := sum_le (fun i => (dec i).length) 60 r fun i hi => dec_len (h i hi)
  simp [mLc, wipeV, e6]
  rw [lcL_of (fun i => .int i) (fun i => .str (dec i)) _ _ (by omega) (fun i hi => ⟨(env.set 11 none).set 11 (some (dI i)), by simp, by simp, by
    simp [ok60_big (h i hi), dec, hl]⟩)]
  have e : (r.map fun i => Py.str (dec i)) = (r.map dec).map .str := by simp
  rw [e]
  have hz' : ((r.map dec).map fun x => x.length).sum + r.length * Str.length " " ≤ 1000000 := by
    rw [sepB.len, List.map_map]
    have e : ((fun x : Str => x.length) ∘ dec) = fun i => (dec i).length := rfl
    rw [e]
    omega
  simp [-List.map_map, hz', rowT]
theorem drawT_eq (p : Int × Int) : (dec p.1 ++ "-") ++ dec p.2 = drawT p := by
  refine ext_tl ?_
  unfold drawT
  rw [tl_append, tl_append, join_eq, tl_join, sepM.e]
  simp [joinL]
theorem law_wayT (W : List (Int × Int)) (hW : W.length ≤ 20) (h : ∀ p ∈ W, okW p) {env : Env'} (e7 : env[7]? = some (some (.d (.lst (W.map drawP))))) (hl : env.length = 14) (st : Store) :
    (mS1 oJoin (mC (.str " ")) (mLc [12, 13] (mIt frzD (mVar 7)) (mUnT 2 (mTCons (mSet 12) (mTCons (mSet 13) mTNil))) mYes (m2 oAdd (m2 oAdd (mL (f1 oStr) (mCons (mVar 12) mNil)) (mC (.str "-"))) (mL (f1 oStr) (mCons (mVar 13) mNil))))) env st = .ok (.d (.str (wayT W))) st := by
  have hs := way_sum hW h
  simp [mLc, wipeV, e7]
  rw [lcL_of drawP (fun p => .str (drawT p)) _ _ (by omega) (fun p hp => ⟨(env.set 12 (some (dI p.1))).set 13 (some (dI p.2)), by
    have e1 : (((env.set 13 none).set 12 none).set 12 (some (dI p.1))).set 13 (some (dI p.2)) = (env.set 12 (some (dI p.1))).set 13 (some (dI p.2)) := by
      apply List.ext_getElem?
      intro j
      by_cases h12 : j = 12
      · subst h12
        simp [hl]
      · by_cases h13 : j = 13
        · subst h13
          simp [hl]
        · rw [List.getElem?_set_ne (by omega), List.getElem?_set_ne (by omega), List.getElem?_set_ne (by omega), List.getElem?_set_ne (by omega), List.getElem?_set_ne (by omega), List.getElem?_set_ne (by omega)]
    simp [e1] <;> simpa using e1, by simp, by
    have hk := h p hp
    have a1 : ((env.set 12 (some (dI p.1))).set 13 (some (dI p.2)))[12]? = some (some (dI p.1)) := by rw [List.getElem?_set_ne (by decide), List.getElem?_set_self (by omega)]
    have a2 : ((env.set 12 (some (dI p.1))).set 13 (some (dI p.2)))[13]? = some (some (dI p.2)) := List.getElem?_set_self (by simp [hl])
    have l1 := dec_len hk.1
    have l2 := dec_len hk.2.1
    have l3 : (dec p.1 ++ ("-" : Str)).length = (dec p.1).length + 1 := by rw [len_tl, tl_append, List.length_append, ← len_tl, sepM.e]; rfl
    have q1 : (dec p.1).length + Str.length "-" ≤ 1000000 := by rw [sepM.len]; omega
    have q2 : (dec p.1 ++ ("-" : Str)).length + (dec p.2).length ≤ 1000000 := by omega
    have q0 := drawT_eq p
    unfold dec at q0 q1 q2
    rw [show (toString p.1 : String) = p.1.repr from rfl, show (toString p.2 : String) = p.2.repr from rfl] at q0 q2
    rw [show (toString p.1 : String) = p.1.repr from rfl] at q1
    simp [a1, a2, ok60_big hk.1, ok60_big hk.2.1, q1, q2, q0]⟩)]
  have e : (W.map fun p => Py.str (drawT p)) = (W.map drawT).map .str := by simp
  rw [e]
  simp [-List.map_map, hs, wayT]
/-- the draws of a way -/
theorem way_step {p q : Nat} {st : Store} (hp : PoolAt p st) (hpq : q ≠ p) {n : Nat} (h1 : 1 ≤ n) (h8 : n ≤ 8) {W : List (Int × Int)} (hq : st[q]? = some (.lst (W.map fun z => .d (drawP z)))) (hW : W.length ≤ 10)
    {env : Env'} (e2 : env[2]? = some (some (.r p))) (e3 : env[3]? = some (some (dI n))) (e7 : env[7]? = some (some (.r q))) :
    ∃ z st', b_law_L0 env st = .ok (.nx env) st' ∧ okW z ∧ st'[q]? = some (.lst ((W ++ [z]).map fun z => .d (drawP z))) ∧ PoolAt p st' ∧ st.length ≤ st'.length := by
  have hql : q < st.length := (List.getElem?_eq_some_iff.mp hq).1
  obtain ⟨a, s1, d1, p1, f1', g1, g2⟩ := v_draw (many := n) hp (by omega) (by unfold big; omega)
  obtain ⟨b, s2, d2, p2, f2', g3, g4⟩ := v_draw (many := 12) p1 (by omega) (by unfold big; omega)
  have hq2 : s2[q]? = some (.lst (W.map fun z => .d (drawP z))) := by rw [(f1'.trans f2').2 q hql hpq]; exact hq
  have hql2 : q < s2.length := (List.getElem?_eq_some_iff.mp hq2).1
  have hsort : ∃ z : Int × Int, sortI [a, b] = [z.1, z.2] ∧ okW z := by
    have hb : (10 : Int) ^ 60 = 1000000000000000000000000000000000000000000000000000000000000 := by decide
    unfold okW ok60
    rw [hb]
    by_cases hab : a ≤ b
    · exact ⟨(a, b), by simp [sortI, insI, hab], by dsimp only; omega⟩
    · exact ⟨(b, a), by simp [sortI, insI, hab], by dsimp only; omega⟩
  obtain ⟨z, hz, hzo⟩ := hsort
  refine ⟨z, s2.set q (.lst ((W ++ [z]).map fun z => .d (drawP z))), ?_, hzo, List.getElem?_set_self hql2, ?_, ?_⟩
  · have hi : intsP [Py.int a, Py.int b] = some [a, b] := rfl
    have hW' : W.length < 1000000 := by omega
    simp [b_law_L0, e2, e3, e7, hq, d1, d2, hi, hz, oAppend, cellL, hq2, hW', setL]
  · obtain ⟨c, s, hc, hs⟩ := p2
    exact ⟨c, s, by rw [List.getElem?_set_ne hpq]; exact hc, hs⟩
  · rw [List.length_set]
    exact Nat.le_trans f1'.1 f2'.1
end G37

set_option Elab.async false
set_option linter.all false
set_option maxRecDepth 100000
set_option maxHeartbeats 2000000
namespace G37
open PySem L2 Bj TL
theorem allD_ways (W : List (Int × Int)) : allD (W.map fun z => .d (drawP z)) = some (W.map drawP) := by
  have : (W.map fun z => Wv.d (drawP z)) = (W.map drawP).map .d := by simp
  rw [this, allD_map]
theorem law_turn (ns : List Int) (k : Int) (h0 : 0 ≤ k) (hk : k ≤ 1000) (st : Store) (o1 o2 o3 o4 o5 o6 o7 o8 o9 o10 o11 o12 o13 : Option Wv) :
    ∃ e2 st2, b_law_L1 [some (.d (ints' ns)), some (dI k), o2, o3, o4, o5, o6, o7, o8, o9, o10, o11, o12, o13] st = .ok (.nx e2) st2 ∧ ∃ p1 p2 p3 p4 p5 p6 p7 p8 p9 p10 p11 p12 p13, e2 = [some (.d (ints' ns)), p1, p2, p3, p4, p5, p6, p7, p8, p9, p10, p11, p12, p13] := by
  -- the pool
  obtain ⟨c, s, hpool, hs0, hs1⟩ := v_pool ns k h0 hk st
  have hp : PoolAt st.length (st ++ [.lst [dI c, dI s]]) := ⟨c, s, by simp, hs0, hs1⟩
  -- the size
  obtain ⟨v, st2, hd, hp2, hf2, hv0, hv1⟩ := v_draw (many := 8) hp (by decide) (by unfold big; omega)
  obtain ⟨n, hn⟩ : ∃ n : Nat, 1 + v = n := ⟨(1 + v).toNat, by omega⟩
  have h1 : 1 ≤ n := by omega
  have h8 : n ≤ 8 := by omega
  -- the rows
  obtain ⟨M, st3, hrow, g, hp3, hf3⟩ := v_law_kind hp2 h1 h8
  have hr : ∀ r ∈ mat n M, r.length ≤ 8 ∧ ∀ i ∈ r, ok60 i := fun r hr => ⟨by rw [(g.ok h8 hr).1]; exact h8, (g.ok h8 hr).2⟩
  have c1 : mAsg (mL m_law_pool (mCons (mVar 0) (mCons (mVar 1) mNil))) (mSet 2) [some (.d (ints' ns)), some (dI k), o2, o3, o4, o5, o6, o7, o8, o9, o10, o11, o12, o13] st = .ok (.nx [some (.d (ints' ns)), some (dI k), some (.r st.length), o3, o4, o5, o6, o7, o8, o9, o10, o11, o12, o13]) (st ++ [.lst [dI c, dI s]]) := by
    simp [hpool]
  have c2 : mAsg (m2 oAdd (mC (.int 1)) (mL m_law_draw (mCons (mVar 2) (mCons (mC (.int 8)) mNil)))) (mSet 3) [some (.d (ints' ns)), some (dI k), some (.r st.length), o3, o4, o5, o6, o7, o8, o9, o10, o11, o12, o13] (st ++ [.lst [dI c, dI s]]) = .ok (.nx [some (.d (ints' ns)), some (dI k), some (.r st.length), some (dI n), o4, o5, o6, o7, o8, o9, o10, o11, o12, o13]) st2 := by
    simp [hd, hn]
  have c3 : mAsg (mL m_law_kind (mCons (mVar 2) (mCons (mVar 3) mNil))) (mSet 4) [some (.d (ints' ns)), some (dI k), some (.r st.length), some (dI n), o4, o5, o6, o7, o8, o9, o10, o11, o12, o13] st2 = .ok (.nx [some (.d (ints' ns)), some (dI k), some (.r st.length), some (dI n), some (.d (rowsP (mat n M))), o5, o6, o7, o8, o9, o10, o11, o12, o13]) st3 := by
    simp [hrow]
  have c4 := asg_ok (i := 5) (law_tabT (mat n M) (by rw [mat_len]; exact h8) hr (env := [some (.d (ints' ns)), some (dI k), some (.r st.length), some (dI n), some (.d (rowsP (mat n M))), o5, o6, o7, o8, o9, o10, o11, o12, o13]) rfl rfl st3)
  have c5 := if_no (a := mRet (mC (.bl false))) (b := mPass) (chk_table g h1 h8 (env := [some (.d (ints' ns)), some (dI k), some (.r st.length), some (dI n), some (.d (rowsP (mat n M))), some (.d (.str (tabT (mat n M)))), o6, o7, o8, o9, o10, o11, o12, o13]) rfl rfl st3)
  obtain ⟨C, st4, hC, hCl, hCo, hp4, hf4⟩ := v_counts hp3 h8 (env := [some (.d (ints' ns)), some (dI k), some (.r st.length), some (dI n), some (.d (rowsP (mat n M))), some (.d (.str (tabT (mat n M)))), o6, o7, o8, o9, o10, o11, o12, o13]) rfl rfl rfl
  have c6 := asg_ok (i := 6) hC
  have c7 := asg_ok (i := 5) (law_rowT C (by omega) hCo (env := [some (.d (ints' ns)), some (dI k), some (.r st.length), some (dI n), some (.d (rowsP (mat n M))), some (.d (.str (tabT (mat n M)))), some (.d (ints' C)), o7, o8, o9, o10, o11, o12, o13]) rfl rfl st4)
  have c8 := if_no (a := mRet (mC (.bl false))) (b := mPass) (chk_jar hCo (by omega) (by omega) (env := [some (.d (ints' ns)), some (dI k), some (.r st.length), some (dI n), some (.d (rowsP (mat n M))), some (.d (.str (rowT C))), some (.d (ints' C)), o7, o8, o9, o10, o11, o12, o13]) rfl rfl st4)
  have c9 : mAsg (mL oLstC mNil) (mSet 7) [some (.d (ints' ns)), some (dI k), some (.r st.length), some (dI n), some (.d (rowsP (mat n M))), some (.d (.str (rowT C))), some (.d (ints' C)), o7, o8, o9, o10, o11, o12, o13] st4 =
      .ok (.nx [some (.d (ints' ns)), some (dI k), some (.r st.length), some (dI n), some (.d (rowsP (mat n M))), some (.d (.str (rowT C))), some (.d (ints' C)), some (.r st4.length), o8, o9, o10, o11, o12, o13]) (st4 ++ [.lst []]) := by
    simp
  -- the way
  have hlt : st.length < st4.length := by
    obtain ⟨c, s, hc, _⟩ := hp4
    exact (List.getElem?_eq_some_iff.mp hc).1
  have hp5 : PoolAt st.length (st4 ++ [.lst []]) := by
    obtain ⟨c, s, hc, hs⟩ := hp4
    exact ⟨c, s, by rw [List.getElem?_append_left hlt]; exact hc, hs⟩
  obtain ⟨w, st6, hd6, hp6, hf6, hw0, hw1⟩ := v_draw (many := 6) hp5 (by decide) (by unfold big; omega)
  obtain ⟨m, rfl⟩ := Int.eq_ofNat_of_zero_le hw0
  have hq6 : st6[st4.length]? = some (.lst []) := by rw [hf6.2 _ (by simp) (by omega)]; simp
  obtain ⟨e7, st7, hfor, _, W, o8', rfl, hq7, hWo, hW, hp7⟩ := forL_inv (t := mSet 8) (b := b_law_L0)
    (fun l env st' => l.length ≤ 6 ∧ ∃ W o8, env = [some (.d (ints' ns)), some (dI k), some (.r st.length), some (dI n), some (.d (rowsP (mat n M))), some (.d (.str (rowT C))), some (.d (ints' C)), some (.r st4.length), o8, o9, o10, o11, o12, o13] ∧
      st'[st4.length]? = some (.lst (W.map fun z => .d (drawP z))) ∧ (∀ z ∈ W, okW z) ∧ W.length + l.length ≤ 6 ∧ PoolAt st.length st')
    (rng 0 m) [some (.d (ints' ns)), some (dI k), some (.r st.length), some (dI n), some (.d (rowsP (mat n M))), some (.d (.str (rowT C))), some (.d (ints' C)), some (.r st4.length), o8, o9, o10, o11, o12, o13] st6
    ⟨by rw [rng_nat]; simp; omega, [], _, rfl, hq6, fun _ h => (nomatch h), by rw [rng_nat]; simp; omega, hp6⟩ (by
      rintro x l env st' ⟨hl, W, o8, rfl, hq, hWo, hW, hp'⟩
      have hW2 : W.length + (l.length + 1) ≤ 6 := by simpa using hW
      obtain ⟨z, st'', hb, hz, hq', hp'', _⟩ := way_step hp' (q := st4.length) (by omega) h1 h8 hq (by omega)
        (env := [some (.d (ints' ns)), some (dI k), some (.r st.length), some (dI n), some (.d (rowsP (mat n M))), some (.d (.str (rowT C))), some (.d (ints' C)), some (.r st4.length), some (.d x), o9, o10, o11, o12, o13]) rfl rfl rfl
      have hl2 : l.length + 1 ≤ 6 := by simpa using hl
      refine ⟨[some (.d (ints' ns)), some (dI k), some (.r st.length), some (dI n), some (.d (rowsP (mat n M))), some (.d (.str (rowT C))), some (.d (ints' C)), some (.r st4.length), some (.d x), o9, o10, o11, o12, o13], _, st', st'', (by simp), .inl hb, (by omega), W ++ [z], _, rfl, hq', fun y hy => ?_, (by simp; omega), hp''⟩
      rcases List.mem_append.mp hy with hy | hy
      · exact hWo y hy
      · rw [List.mem_singleton.mp hy]; exact hz)
  have c10 : mFor (mR1 (mCons (mL m_law_draw (mCons (mVar 2) (mCons (mC (.int 6)) mNil))) mNil)) (mSet 8) b_law_L0 [some (.d (ints' ns)), some (dI k), some (.r st.length), some (dI n), some (.d (rowsP (mat n M))), some (.d (.str (rowT C))), some (.d (ints' C)), some (.r st4.length), o8, o9, o10, o11, o12, o13] (st4 ++ [.lst []]) =
      .ok (.nx [some (.d (ints' ns)), some (dI k), some (.r st.length), some (dI n), some (.d (rowsP (mat n M))), some (.d (.str (rowT C))), some (.d (ints' C)), some (.r st4.length), o8', o9, o10, o11, o12, o13]) st7 := by
    have b1 : (-4000000000000000000 : Int) ≤ m := by omega
    have b2 : (m : Int) ≤ 4000000000000000000 := by omega
    simp [hd6, b1, b2, hfor]
  have hfz : frz2 (.r st4.length) st7 = .ok (.lst (W.map drawP)) (st7.set st4.length .dead) := by
    unfold frz2
    simp only [hq7]
    have : ∀ (ws : List Py) (st : Store), frzAll (ws.map .d) st = .ok ws st := by
      intro ws
      induction ws with
      | nil => intro st; rfl
      | cons x ws ih => intro st; simp [frzAll, ih]
    have e : (W.map fun z => Wv.d (drawP z)) = (W.map drawP).map .d := by simp
    rw [e]
    simp only [bnd_ap, this]
  have c11 : ∀ b : Env' → Bj.M Fl, mFrzV 7 b [some (.d (ints' ns)), some (dI k), some (.r st.length), some (dI n), some (.d (rowsP (mat n M))), some (.d (.str (rowT C))), some (.d (ints' C)), some (.r st4.length), o8', o9, o10, o11, o12, o13] st7 =
      b [some (.d (ints' ns)), some (dI k), some (.r st.length), some (dI n), some (.d (rowsP (mat n M))), some (.d (.str (rowT C))), some (.d (ints' C)), some (.d (.lst (W.map drawP))), o8', o9, o10, o11, o12, o13] (st7.set st4.length .dead) := fun b => by
    simp [hfz]
  have hWl : W.length ≤ 6 := by simpa using hW
  have c12 := asg_ok (i := 5) (law_wayT W (by omega) hWo (env := [some (.d (ints' ns)), some (dI k), some (.r st.length), some (dI n), some (.d (rowsP (mat n M))), some (.d (.str (rowT C))), some (.d (ints' C)), some (.d (.lst (W.map drawP))), o8', o9, o10, o11, o12, o13]) rfl rfl (st7.set st4.length .dead))
  have c13 := if_no (a := mRet (mC (.bl false))) (b := mPass) (chk_way hWo (by omega) (env := [some (.d (ints' ns)), some (dI k), some (.r st.length), some (dI n), some (.d (rowsP (mat n M))), some (.d (.str (wayT W))), some (.d (ints' C)), some (.d (.lst (W.map drawP))), o8', o9, o10, o11, o12, o13]) rfl rfl (st7.set st4.length .dead))
  refine ⟨[some (.d (ints' ns)), some (dI k), some (.r st.length), some (dI n), some (.d (rowsP (mat n M))), some (.d (.str (wayT W))), some (.d (ints' C)), some (.d (.lst (W.map drawP))), o8', o9, o10, o11, o12, o13], st7.set st4.length .dead, ?_, _, _, _, _, _, _, _, _, _, _, _, _, _, rfl⟩
  unfold b_law_L1
  exact (sq_nx c1).trans ((sq_nx c2).trans ((sq_nx c3).trans ((sq_nx c4).trans ((sq_nx c5).trans ((sq_nx c6).trans ((sq_nx c7).trans ((sq_nx c8).trans ((sq_nx c9).trans ((sq_nx c10).trans ((c11 _).trans ((sq_nx c12).trans c13)))))))))))
theorem law_end (env : Env') (st : Store) : (mRet (mAndV (m2 oEq (mL m_format_way (mCons (mL oLst mNil) mNil)) (mC (.str ""))) (mAndV (m2 oEq (mL m_parse_way (mCons (mC (.str "")) mNil)) (mL oLst mNil)) (m2 (orOwn 0 m_Jar__eq false oEq) (mL m_parse_jar (mCons (mC (.str "0")) mNil)) (mL (newF 0 m_Jar__init) (mCons (mL oLst (mCons (mC (.int 0)) mNil)) mNil)))))) env st = .ok (.rt (.d (.bl true))) st := by
  have a1 := v_format_way [] (by simp) (fun _ h => nomatch h) st
  have a2 := v_parse_way0 st
  have hz : ok60 0 := ⟨by decide, by decide⟩
  have ho : ∀ i ∈ [(0 : Int)], ok60 i := fun i hi => by rw [List.mem_singleton.mp hi]; exact hz
  have e0 : rowT [0] = ("0" : Str) := by
    refine ext_tl ?_
    unfold rowT
    rw [join_eq, tl_join]
    have := dec_tl 0
    rw [numL_lt (by decide)] at this
    simp only [List.map_cons, List.map_nil, joinL]
    exact this.trans (by decide +kernel)
  have a3 := v_parse_jar [0] st ho (by simp) (by simp)
  rw [show Txt.join " " ([(0 : Int)].map dec) = rowT [0] from rfl, e0] at a3
  have a4 := v_Jar [0] st (fun i hi => by rw [List.mem_singleton.mp hi]; exact Int.le_refl _) (by simp) (by simp)
  have a5 := own_eq 0 m_Jar__eq _ _ st _ (v_Jar_eq [0] [0] st)
  have a6 : oEq (.d (.str "")) (.d (.str "")) st = .ok (.d (.bl true)) st := by
    rw [oEq_ok (by decide +kernel) (by decide +kernel), eqP_refl]
  have a7 : oEq (.d (.lst [])) (.d (.lst [])) st = .ok (.d (.bl true)) st := by
    rw [oEq_ok rfl rfl, eqP_refl]
  have a8 : wayT [] = ("" : Str) := ext_tl (by unfold wayT; rw [join_eq, tl_join]; decide +kernel)
  simp at a1 a3 a4 a5
  rw [a8] at a1
  have a9 : newF 0 m_Jar__init [.d (.lst [.int 0])] st = .ok (.d (.obj 0 [("own_counts", ints' [0])])) st := a4
  simp [a1, a2, a3, a9, a5, a6, a7]
theorem plain : ∀ ns : List Int, ns.length ≤ 63 → ∃ st, m_law [.d (.lst (ns.map .int))] [] = .ok (.d (.bl true)) st := by
  intro ns hl
  obtain ⟨K, hK, hK8⟩ : ∃ K : Nat, (if (if (8 : Int) < (ns.length : Int) then (8 : Int) else ns.length) > 1 then (if (8 : Int) < (ns.length : Int) then (8 : Int) else ns.length) else 1) = (K : Int) ∧ K ≤ 8 := by
    refine ⟨(if (if (8 : Int) < (ns.length : Int) then (8 : Int) else ns.length) > 1 then (if (8 : Int) < (ns.length : Int) then (8 : Int) else ns.length) else 1).toNat, ?_, ?_⟩
    all_goals (repeat' split) <;> omega
  obtain ⟨e2, st2, h1, _, o1, o2, o3, o4, o5, o6, o7, o8, o9, o10, o11, o12, o13, rfl⟩ := forL_inv (t := mSet 1) (b := b_law_L1)
    (fun l env st => (∀ x ∈ l, ∃ k : Int, 0 ≤ k ∧ k ≤ 1000 ∧ x = .int k) ∧ ∃ o1 o2 o3 o4 o5 o6 o7 o8 o9 o10 o11 o12 o13, env = [some (.d (ints' ns)), o1, o2, o3, o4, o5, o6, o7, o8, o9, o10, o11, o12, o13])
    (rng 0 K) [some (.d (ints' ns)), none, none, none, none, none, none, none, none, none, none, none, none, none] []
    ⟨fun x hx => by
      rw [rng_nat] at hx
      obtain ⟨b, hb, rfl⟩ := List.mem_map.mp hx
      have := List.mem_range.mp hb
      exact ⟨b, by omega, by omega, rfl⟩, _, _, _, _, _, _, _, _, _, _, _, _, _, rfl⟩ (by
      rintro x l env st ⟨hx, o1, o2, o3, o4, o5, o6, o7, o8, o9, o10, o11, o12, o13, rfl⟩
      obtain ⟨k, k0, k1, rfl⟩ := hx _ (List.mem_cons_self ..)
      obtain ⟨e2, st2, hb, he⟩ := law_turn ns k k0 k1 st o1 o2 o3 o4 o5 o6 o7 o8 o9 o10 o11 o12 o13
      exact ⟨_, e2, st, st2, rfl, .inl hb, fun y hy => hx y (List.mem_cons_of_mem _ hy), he⟩)
  refine ⟨st2, ?_⟩
  have b1 : (-4000000000000000000 : Int) ≤ K := by omega
  have b2 : (K : Int) ≤ 4000000000000000000 := by omega
  have c1 : mFor (mR1 (mCons (mL (f2 oMax2) (mCons (mC (.int 1)) (mCons (mL (f2 oMin2) (mCons (mL (f1 oLen) (mCons (mVar 0) mNil)) (mCons (mC (.int 8)) mNil))) mNil))) mNil)) (mSet 1) b_law_L1 [some (.d (ints' ns)), none, none, none, none, none, none, none, none, none, none, none, none, none] [] =
      .ok (.nx [some (.d (ints' ns)), o1, o2, o3, o4, o5, o6, o7, o8, o9, o10, o11, o12, o13]) st2 := by
    simp only [mFor, mR1, mCons, mL, mC, mVar, mNil]
    simp [hK, b1, b2, h1]
  have c2 := law_end [some (.d (ints' ns)), o1, o2, o3, o4, o5, o6, o7, o8, o9, o10, o11, o12, o13] st2
  show fnM 1 14 b_law [.d (ints' ns)] [] = _
  unfold fnM b_law
  rw [if_pos (show [Wv.d (ints' ns)].length = 1 from rfl)]
  have e : ([Wv.d (ints' ns)].map some ++ List.replicate (14 - 1) none : Env') = [some (.d (ints' ns)), none, none, none, none, none, none, none, none, none, none, none, none, none] := rfl
  rw [e]
  simp only [bnd_ap]
  rw [sq_nx c1, c2]
  rfl
end G37

open PySem PySem.W PyProof.Rows
set_option maxRecDepth 100000 in
set_option maxHeartbeats 0 in
theorem PySem.Challenge.cw_beanjars_k37_texts_holds : PySem.Challenge.rw_beanjars_k37_texts.Holds := by
  w_on; o_law; k_head; (case hw => w_witness2)
  k_fill
  refine G37.walk (l := PySem.Challenge.rw_beanjars_k37_texts) rfl rfl (fun w h Y => PySem.W.kIn_of Y) ?F
  case F =>
    intro w mg fa h KX G hmg
    refine' G37.all_mk G37.plain KX G hmg ?nl ?aC0 ?cpg0 ?chd0 ?cpo0 ?csa0 ?cmk0 ?ckc0 ?cne0 ?cob0 ?cis0 ?cty0 ?cha0 ?aC1 ?cpg1 ?chd1 ?cpo1 ?csa1 ?cmk1 ?ckc1 ?cne1 ?cob1 ?cis1 ?cty1 ?cha1 ?aC2 ?chn ?cht ?a0 ?l0 ?c0 ?k0 ?a1 ?l1 ?c1 ?k1 ?i1 ?a2 ?l2 ?c2 ?k2 ?a3 ?l3 ?c3 ?k3 ?a4 ?l4 ?c4 ?k4 ?a5 ?l5 ?c5 ?k5 ?a6 ?l6 ?c6 ?k6 ?i6 ?a7 ?l7 ?c7 ?k7 ?a8 ?l8 ?c8 ?k8 ?a9 ?l9 ?c9 ?k9 ?a10 ?l10 ?c10 ?k10 ?a11 ?l11 ?c11 ?k11 ?a12 ?l12 ?c12 ?k12 ?a13 ?l13 ?c13 ?k13 ?i13 ?a14 ?l14 ?c14 ?k14 ?a15 ?l15 ?c15 ?k15 ?a16 ?l16 ?c16 ?k16 ?i16 ?a17 ?l17 ?c17 ?k17 ?a18 ?l18 ?c18 ?k18 ?a19 ?l19 ?c19 ?k19 ?a20 ?l20 ?c20 ?k20 ?a21 ?l21 ?c21 ?k21 ?i21 ?a22 ?l22 ?c22 ?k22 ?a23 ?l23 ?c23 ?k23 ?i23 ?a24 ?l24 ?c24 ?k24 ?a25 ?l25 ?c25 ?k25 ?a26 ?l26 ?c26 ?k26 ?a27 ?l27 ?c27 ?k27 ?na0_own_counts ?na1_own_rows ?gk_MAX_COLOURS ?gk_DIGITS ?z_list ?z_all ?z_isinstance ?z_bool ?z_int ?z_len ?z_tuple ?z_str ?z_range ?z_max ?z_min ?z_sorted ?z_enumerate
    (case aC0 => k_is)
    (case cpg0 => k_is)
    (case chd0 => k_is)
    (case cpo0 => k_is)
    (case csa0 => k_is)
    (case cmk0 => k_is)
    (case ckc0 => k_is)
    (case cne0 => k_is)
    (case cob0 => k_is)
    (case cis0 => k_is)
    (case cty0 => k_is)
    (case cha0 => k_is)
    (case aC1 => k_is)
    (case cpg1 => k_is)
    (case chd1 => k_is)
    (case cpo1 => k_is)
    (case csa1 => k_is)
    (case cmk1 => k_is)
    (case ckc1 => k_is)
    (case cne1 => k_is)
    (case cob1 => k_is)
    (case cis1 => k_is)
    (case cty1 => k_is)
    (case cha1 => k_is)
    (case aC2 => k_is)
    (case chn => k_is)
    (case cht => k_is)
    (case a0 => k_is)
    (case l0 => k_is)
    (case c0 => k_is)
    (case k0 => k_is)
    (case a1 => k_is)
    (case l1 => k_is)
    (case c1 => k_is)
    (case k1 => k_is)
    (case i1 => k_is)
    (case a2 => k_is)
    (case l2 => k_is)
    (case c2 => k_is)
    (case k2 => k_is)
    (case a3 => k_is)
    (case l3 => k_is)
    (case c3 => k_is)
    (case k3 => k_is)
    (case a4 => k_is)
    (case l4 => k_is)
    (case c4 => k_is)
    (case k4 => k_is)
    (case a5 => k_is)
    (case l5 => k_is)
    (case c5 => k_is)
    (case k5 => k_is)
    (case a6 => k_is)
    (case l6 => k_is)
    (case c6 => k_is)
    (case k6 => k_is)
    (case i6 => k_is)
    (case a7 => k_is)
    (case l7 => k_is)
    (case c7 => k_is)
    (case k7 => k_is)
    (case a8 => k_is)
    (case l8 => k_is)
    (case c8 => k_is)
    (case k8 => k_is)
    (case a9 => k_is)
    (case l9 => k_is)
    (case c9 => k_is)
    (case k9 => k_is)
    (case a10 => k_is)
    (case l10 => k_is)
    (case c10 => k_is)
    (case k10 => k_is)
    (case a11 => k_is)
    (case l11 => k_is)
    (case c11 => k_is)
    (case k11 => k_is)
    (case a12 => k_is)
    (case l12 => k_is)
    (case c12 => k_is)
    (case k12 => k_is)
    (case a13 => k_is)
    (case l13 => k_is)
    (case c13 => k_is)
    (case k13 => k_is)
    (case i13 => k_is)
    (case a14 => k_is)
    (case l14 => k_is)
    (case c14 => k_is)
    (case k14 => k_is)
    (case a15 => k_is)
    (case l15 => k_is)
    (case c15 => k_is)
    (case k15 => k_is)
    (case a16 => k_is)
    (case l16 => k_is)
    (case c16 => k_is)
    (case k16 => k_is)
    (case i16 => k_is)
    (case a17 => k_is)
    (case l17 => k_is)
    (case c17 => k_is)
    (case k17 => k_is)
    (case a18 => k_is)
    (case l18 => k_is)
    (case c18 => k_is)
    (case k18 => k_is)
    (case a19 => k_is)
    (case l19 => k_is)
    (case c19 => k_is)
    (case k19 => k_is)
    (case a20 => k_is)
    (case l20 => k_is)
    (case c20 => k_is)
    (case k20 => k_is)
    (case a21 => k_is)
    (case l21 => k_is)
    (case c21 => k_is)
    (case k21 => k_is)
    (case i21 => k_is)
    (case a22 => k_is)
    (case l22 => k_is)
    (case c22 => k_is)
    (case k22 => k_is)
    (case a23 => k_is)
    (case l23 => k_is)
    (case c23 => k_is)
    (case k23 => k_is)
    (case i23 => k_is)
    (case a24 => k_is)
    (case l24 => k_is)
    (case c24 => k_is)
    (case k24 => k_is)
    (case a25 => k_is)
    (case l25 => k_is)
    (case c25 => k_is)
    (case k25 => k_is)
    (case a26 => k_is)
    (case l26 => k_is)
    (case c26 => k_is)
    (case k26 => k_is)
    (case a27 => k_is)
    (case l27 => k_is)
    (case c27 => k_is)
    (case k27 => k_is)
    (case na0_own_counts => k_is)
    (case na1_own_rows => k_is)
    (case gk_MAX_COLOURS => k_is)
    (case gk_DIGITS => k_is)
    (case z_list => k_is)
    (case z_all => k_is)
    (case z_isinstance => k_is)
    (case z_bool => k_is)
    (case z_int => k_is)
    (case z_len => k_is)
    (case z_tuple => k_is)
    (case z_str => k_is)
    (case z_range => k_is)
    (case z_max => k_is)
    (case z_min => k_is)
    (case z_sorted => k_is)
    (case z_enumerate => k_is)
    (case nl => rfl)
#print axioms PySem.Challenge.cw_beanjars_k37_texts_holds

