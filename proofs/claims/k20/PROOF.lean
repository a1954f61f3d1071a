import PyProof.Rows.All
import Wide.All
import OpenK.AllK
import Wide.FinOn
import HandS.ForMost
import HandS.Flow
import HandS.Zip
import HandS.Style
import HandS.Defaults
import HandS.Ends
import HandS.Text
import HandS.TupAny
import HandS.TupMul
import HandS.Deep
import HandS.IsInst
import HandS.Codes
import HandS.Dict
import HandS.Iter
import KE.GoesNew
import KE.GoesMore
import HandS.Replace
import HandS.Small
import HandS.Conv
import PyProof.ReprRoads
import PyProof.ListStr
import PyProof.TupleOfStr
import KE.KDictZip
import PyProof.ListNew
import PyProof.Rows.StrRev
import KE.KRevSl
import KE.KDictWalk
import PyProof.Rows.TupMore
import PyProof.ReprDict
import KE.DataEq
import HandS.RevRange
import HandS.SetKeys
import HandS.SetFor
import PyProof.Rows.ReprOcc
import PySem.Challenge.RW_elderwords_k20_any_value_as_machine
import KE.KStateDown
import HandS.WordsExc
import HandS.Head0
import HandS.Head1
import HandS.Head2
import HandS.HeadEnd
import HandS.HeadHook1
import HandS.HeadHook2
set_option Elab.async false
set_option linter.all false
set_option maxRecDepth 100000
set_option maxHeartbeats 4000000
set_option maxHeartbeats 2000000
set_option maxHeartbeats 0
/-! EwCore: data trees for values, frozen and owned; environments; steps; the judgements. -/
namespace Ew
open PySem L2

abbrev D := PyData
abbrev St := L2.St
def kD : Key → D
  | .inl i => .int i
  | .inr x => .str x

/-- a list that nobody can change: locked, or of the written part -/
def Cl (K : PySem.W.Frag) (H : Hp) (a : Addr) (xs : List V) : Prop :=
  (∃ o, H a = some (.frz o (.lst xs))) ∨ ∃ (its : List Value) (n : Nat), K.lookup a = some { cls := .type "list", data := .seq its.toArray n } ∧ Vals xs its ∧ xs.length ≤ sizeLine
mutual
/-- a value that stays as it is, as data; F: the lists and dicts that nobody changes any more -/
inductive Fz (K : PySem.W.Frag) (F : Addr → Prop) (H : Hp) : V → D → Prop
  | non : Fz K F H .non .none
  | bl (b : Bool) : Fz K F H (.bl b) (.bool b)
  | int (i : Int) : Fz K F H (.int i) (.int i)
  | str (x : Str) : Fz K F H (.str x) (.str x)
  | tup {a : Addr} {xs : List V} {ds : List D} : SqT K H a xs → FzAll K F H xs ds → Fz K F H (.ref a) (.tuple ds)
  | lst {a : Addr} {xs : List V} {ds : List D} : H a = some (.lst xs) → F a → FzAll K F H xs ds → Fz K F H (.ref a) (.list ds)
  | scr {a : Addr} {xs : List V} {ds : List D} : Cl K H a xs → FzAll K F H xs ds → Fz K F H (.ref a) (.list ds)
  | dic {a : Addr} {kvs : List (Key × V)} {ds : List (D × D)} : H a = some (.dK kvs) → F a → FzKv K F H kvs ds → Fz K F H (.ref a) (.dict ds)
inductive FzAll (K : PySem.W.Frag) (F : Addr → Prop) (H : Hp) : List V → List D → Prop
  | nil : FzAll K F H [] []
  | cons {v : V} {vs : List V} {d : D} {ds : List D} : Fz K F H v d → FzAll K F H vs ds → FzAll K F H (v :: vs) (d :: ds)
inductive FzKv (K : PySem.W.Frag) (F : Addr → Prop) (H : Hp) : List (Key × V) → List (D × D) → Prop
  | nil : FzKv K F H [] []
  | cons {k : Key} {v : V} {vs : List (Key × V)} {d : D} {ds : List (D × D)} : Fz K F H v d → FzKv K F H vs ds → FzKv K F H ((k, v) :: vs) ((kD k, d) :: ds)
end

section
variable {K : PySem.W.Frag} {F F' : Addr → Prop} {H H' : Hp}
theorem sqT_mono (k : ∀ a o, H a = some o → ¬ Mut (some o) → H' a = some o) {a : Addr} {xs : List V} (h : SqT K H a xs) : SqT K H' a xs := by
  rcases h with h | h
  · rcases h with h | ⟨o, h⟩
    · exact .inl (.inl (k _ _ h (fun z => z)))
    · exact .inl (.inr ⟨o, k _ _ h (fun z => z)⟩)
  · exact .inr h
mutual
theorem Fz.mono (hF : ∀ a, F a → F' a) (k : ∀ a o, H a = some o → (F a ∨ ¬ Mut (some o)) → H' a = some o) : ∀ {v : V} {d : D}, Fz K F H v d → Fz K F' H' v d
  | _, _, .non => .non
  | _, _, .bl b => .bl b
  | _, _, .int i => .int i
  | _, _, .str x => .str x
  | _, _, .tup h t => .tup (sqT_mono (fun a o e n => k a o e (.inr n)) h) (FzAll.mono hF k t)
  | _, _, .lst h f t => .lst (k _ _ h (.inl f)) (hF _ f) (FzAll.mono hF k t)
  | _, _, .scr h t => .scr (h.imp (fun ⟨o, e⟩ => ⟨o, k _ _ e (.inr (fun z => z))⟩) id) (FzAll.mono hF k t)
  | _, _, .dic h f t => .dic (k _ _ h (.inl f)) (hF _ f) (FzKv.mono hF k t)
theorem FzAll.mono (hF : ∀ a, F a → F' a) (k : ∀ a o, H a = some o → (F a ∨ ¬ Mut (some o)) → H' a = some o) : ∀ {v : List V} {d : List D}, FzAll K F H v d → FzAll K F' H' v d
  | _, _, .nil => .nil
  | _, _, .cons h t => .cons (Fz.mono hF k h) (FzAll.mono hF k t)
theorem FzKv.mono (hF : ∀ a, F a → F' a) (k : ∀ a o, H a = some o → (F a ∨ ¬ Mut (some o)) → H' a = some o) : ∀ {v : List (Key × V)} {d : List (D × D)}, FzKv K F H v d → FzKv K F' H' v d
  | _, _, .nil => .nil
  | _, _, .cons h t => .cons (Fz.mono hF k h) (FzKv.mono hF k t)
end
theorem FzAll.length : ∀ {vs : List V} {ds : List D}, FzAll K F H vs ds → vs.length = ds.length
  | _, _, .nil => rfl
  | _, _, .cons _ t => by simp [FzAll.length t]
theorem FzAll.get : ∀ {vs : List V} {ds : List D} {i : Nat} {d : D}, FzAll K F H vs ds → ds[i]? = some d → ∃ v, vs[i]? = some v ∧ Fz K F H v d
  | _, _, _, _, .nil, e => by simp at e
  | _, _, 0, _, .cons h _, e => by simp at e; subst e; exact ⟨_, rfl, h⟩
  | _, _, i + 1, _, .cons _ t, e => by
    obtain ⟨v, h1, h2⟩ := FzAll.get (i := i) t (by simpa using e)
    exact ⟨v, by simpa using h1, h2⟩
theorem FzAll.get' : ∀ {vs : List V} {ds : List D} {i : Nat} {v : V}, FzAll K F H vs ds → vs[i]? = some v → ∃ d, ds[i]? = some d ∧ Fz K F H v d
  | _, _, _, _, .nil, e => by simp at e
  | _, _, 0, _, .cons h _, e => by simp at e; subst e; exact ⟨_, rfl, h⟩
  | _, _, i + 1, _, .cons _ t, e => by
    obtain ⟨v, h1, h2⟩ := FzAll.get' (i := i) t (by simpa using e)
    exact ⟨v, by simpa using h1, h2⟩
theorem FzAll.append : ∀ {vs ws : List V} {ds es : List D}, FzAll K F H vs ds → FzAll K F H ws es → FzAll K F H (vs ++ ws) (ds ++ es)
  | _, _, _, _, .nil, s => s
  | _, _, _, _, .cons h t, s => .cons h (FzAll.append t s)
theorem FzAll.take : ∀ {vs : List V} {ds : List D} (n : Nat), FzAll K F H vs ds → FzAll K F H (vs.take n) (ds.take n)
  | _, _, 0, _ => .nil
  | _, _, _ + 1, .nil => .nil
  | _, _, n + 1, .cons r t => .cons r (FzAll.take n t)
theorem FzAll.drop : ∀ {vs : List V} {ds : List D} (n : Nat), FzAll K F H vs ds → FzAll K F H (vs.drop n) (ds.drop n)
  | _, _, 0, r => r
  | _, _, _ + 1, .nil => .nil
  | _, _, n + 1, .cons _ t => FzAll.drop n t
theorem FzAll.set {v : V} {d : D} (h : Fz K F H v d) : ∀ {vs : List V} {ds : List D} (n : Nat), FzAll K F H vs ds → FzAll K F H (vs.set n v) (ds.set n d)
  | _, _, _, .nil => .nil
  | _, _, 0, .cons _ t => .cons h t
  | _, _, n + 1, .cons r t => .cons r (FzAll.set h n t)
theorem FzAll.reverse : ∀ {vs : List V} {ds : List D}, FzAll K F H vs ds → FzAll K F H vs.reverse ds.reverse
  | _, _, .nil => .nil
  | _, _, .cons h t => by rw [List.reverse_cons, List.reverse_cons]; exact (FzAll.reverse t).append (.cons h .nil)

/-- what stands at a: a list, a dict, that is read; its parts are frozen -/
inductive Bd (K : PySem.W.Frag) (F : Addr → Prop) (H : Hp) (a : Addr) : D → Prop
  | lst {xs : List V} {ds : List D} : H a = some (.lst xs) → FzAll K F H xs ds → Bd K F H a (.list ds)
  | dic {kvs : List (Key × V)} {ds : List (D × D)} : H a = some (.dK kvs) → FzKv K F H kvs ds → Bd K F H a (.dict ds)
theorem Bd.mut {a : Addr} {d : D} (h : Bd K F H a d) : Mut (H a) := by
  cases h with
  | lst h _ => rw [h]; trivial
  | dic h _ => rw [h]; trivial
theorem Bd.ne {a : Addr} {d : D} (h : Bd K F H a d) : H a ≠ none := by
  cases h with
  | lst h _ => rw [h]; exact fun z => nomatch z
  | dic h _ => rw [h]; exact fun z => nomatch z
theorem Bd.mono {a : Addr} {d : D} (hF : ∀ a, F a → F' a) (k : ∀ a o, H a = some o → (F a ∨ ¬ Mut (some o)) → H' a = some o) (e : H' a = H a) (h : Bd K F H a d) : Bd K F' H' a d := by
  cases h with
  | lst h t => exact .lst (e.trans h) (t.mono hF k)
  | dic h t => exact .dic (e.trans h) (t.mono hF k)
/-- readable now -/
def Br (K : PySem.W.Frag) (F : Addr → Prop) (H : Hp) (v : V) (d : D) : Prop := Fz K F H v d ∨ ∃ a, v = .ref a ∧ Bd K F H a d
theorem Bd.fz {a : Addr} {d : D} (h : Bd K F H a d) (f : F a) : Fz K F H (.ref a) d := by
  cases h with
  | lst h t => exact .lst h f t
  | dic h t => exact .dic h f t
inductive BrAll (K : PySem.W.Frag) (F : Addr → Prop) (H : Hp) : List V → List D → Prop
  | nil : BrAll K F H [] []
  | cons {v : V} {vs : List V} {d : D} {ds : List D} : Br K F H v d → BrAll K F H vs ds → BrAll K F H (v :: vs) (d :: ds)
theorem BrAll.length : ∀ {vs : List V} {ds : List D}, BrAll K F H vs ds → vs.length = ds.length
  | _, _, .nil => rfl
  | _, _, .cons _ t => by simp [BrAll.length t]
end

/-! ### environments -/
inductive Sl where
  | un | fz (d : D) | ow (d : D) | mp (d : D)
abbrev En := List Sl
def Sl.val? : Sl → Option D
  | .un => none
  | .fz d => some d
  | .ow d => some d
  | .mp d => some d
def Sl.isOw : Sl → Bool
  | .ow _ => true
  | .mp _ => true
  | _ => false
def OwAt (env : En) (i : Nat) : Prop := ∃ s, env[i]? = some s ∧ s.isOw = true
def Owned (σ : St) (env : En) (a : Addr) : Prop := ∃ i, OwAt env i ∧ σ[i]? = some (some (.ref a))
structure Rel (K : PySem.W.Frag) (a0 : Addr) (F : Addr → Prop) (H : Hp) (σ : St) (env : En) : Prop where
  len : env.length = σ.length
  fd : ∀ a : Addr, F a → H a ≠ none
  fz : ∀ (i : Nat) (d : D), env[i]? = some (.fz d) → ∃ v, σ[i]? = some (some v) ∧ Fz K F H v d
  ow : ∀ (i : Nat) (d : D), env[i]? = some (.ow d) → ∃ a, σ[i]? = some (some (.ref a)) ∧ ¬ F a ∧ Bd K F H a d
  mp : ∀ (i : Nat) (d : D), env[i]? = some (.mp d) → σ[i]? = some (some (.ref a0)) ∧ ¬ F a0 ∧ Bd K F H a0 d
  ap : ∀ (i j : Nat) (a : Addr), i ≠ j → OwAt env i → OwAt env j → σ[i]? = some (some (.ref a)) → σ[j]? = some (some (.ref a)) → False
theorem Rel.owned {K a0 F H σ env a} (R : Rel K a0 F H σ env) (o : Owned σ env a) : ¬ F a ∧ Mut (H a) ∧ H a ≠ none := by
  obtain ⟨i, ⟨s, e, w⟩, q⟩ := o
  cases s with
  | un => cases w
  | fz d => cases w
  | ow d =>
    obtain ⟨b, h1, h2, h3⟩ := R.ow i d e
    rw [q] at h1; cases h1
    exact ⟨h2, h3.mut, h3.ne⟩
  | mp d =>
    obtain ⟨h1, h2, h3⟩ := R.mp i d e
    rw [q] at h1; cases h1
    exact ⟨h2, h3.mut, h3.ne⟩
/-- a step: what is frozen stays, what no name of the frame owns stays -/
structure Stp (F : Addr → Prop) (H : Hp) (σ : St) (env : En) (F' : Addr → Prop) (H' : Hp) (σ' : St) (env' : En) : Prop where
  sub : ∀ a, F a → F' a
  new : ∀ a, F' a → F a ∨ H a = none ∨ Owned σ env a
  keep : ∀ a o, H a = some o → ¬ Owned σ env a → H' a = some o
  dom : ∀ a, H a ≠ none → H' a ≠ none
  own : ∀ a, Owned σ' env' a → Owned σ env a ∨ H a = none
theorem Stp.refl {F H σ env} : Stp F H σ env F H σ env := ⟨fun _ h => h, fun _ h => .inl h, fun _ _ h _ => h, fun _ h => h, fun _ h => .inl h⟩
theorem Stp.trans {F H σ env F1 H1 σ1 env1 F2 H2 σ2 env2} (a : Stp F H σ env F1 H1 σ1 env1) (b : Stp F1 H1 σ1 env1 F2 H2 σ2 env2) : Stp F H σ env F2 H2 σ2 env2 where
  sub := fun x h => b.sub x (a.sub x h)
  new := fun x h => by
    rcases b.new x h with h | h | h
    · exact a.new x h
    · refine .inr (.inl ?_)
      cases e : H x with
      | none => rfl
      | some o => exact absurd h (a.dom x (by rw [e]; exact fun z => nomatch z))
    · rcases a.own x h with h | h
      · exact .inr (.inr h)
      · exact .inr (.inl h)
  keep := fun x o h n => b.keep x o (a.keep x o h n) fun w => by
    rcases a.own x w with w | w
    · exact n w
    · rw [h] at w; cases w
  dom := fun x h => b.dom x (a.dom x h)
  own := fun x h => by
    rcases b.own x h with h | h
    · exact a.own x h
    · refine .inr ?_
      cases e : H x with
      | none => rfl
      | some o => exact absurd h (a.dom x (by rw [e]; exact fun z => nomatch z))
/-- what is frozen stays so -/
theorem Stp.hk {K a0 F H σ env F' H' σ' env'} (S : Stp F H σ env F' H' σ' env') (R : Rel K a0 F H σ env) : ∀ a o, H a = some o → (F a ∨ ¬ Mut (some o)) → H' a = some o := fun a o e h => S.keep a o e fun w => by
  obtain ⟨h1, h2, _⟩ := R.owned w
  rcases h with h | h
  · exact h1 h
  · rw [e] at h2; exact h h2
theorem Stp.fz {K a0 F H σ env F' H' σ' env' v d} (S : Stp F H σ env F' H' σ' env') (R : Rel K a0 F H σ env) (h : Fz K F H v d) : Fz K F' H' v d := h.mono S.sub (S.hk R)
theorem Stp.fzAll {K a0 F H σ env F' H' σ' env' v d} (S : Stp F H σ env F' H' σ' env') (R : Rel K a0 F H σ env) (h : FzAll K F H v d) : FzAll K F' H' v d := h.mono S.sub (S.hk R)

/-- the heap has grown by new objects; F by some of them -/
structure Grow (F : Addr → Prop) (H : Hp) (F' : Addr → Prop) (H' : Hp) : Prop where
  sub : ∀ a, F a → F' a
  new : ∀ a, F' a → F a ∨ (H a = none ∧ H' a ≠ none)
  keep : ∀ a o, H a = some o → H' a = some o
theorem Grow.refl {F H} : Grow F H F H := ⟨fun _ h => h, fun _ h => .inl h, fun _ _ h => h⟩
theorem Grow.stp {F H F' H' σ env} (g : Grow F H F' H') : Stp F H σ env F' H' σ env :=
  ⟨g.sub, fun a h => (g.new a h).elim .inl fun z => .inr (.inl z.1), fun a o h _ => g.keep a o h, fun a h => (by
    cases e : H a with
    | none => exact absurd e h
    | some o => rw [g.keep a o e]; exact fun z => nomatch z), fun _ h => .inl h⟩
theorem Grow.fz {K F H F' H' v d} (g : Grow F H F' H') (h : Fz K F H v d) : Fz K F' H' v d := h.mono g.sub fun a o e _ => g.keep a o e
theorem Grow.fzAll {K F H F' H' v d} (g : Grow F H F' H') (h : FzAll K F H v d) : FzAll K F' H' v d := h.mono g.sub fun a o e _ => g.keep a o e
theorem Grow.bd {K F H F' H' a d} (g : Grow F H F' H') (h : Bd K F H a d) : Bd K F' H' a d := h.mono g.sub (fun a o e _ => g.keep a o e) (by
  cases e : H a with
  | none => exact absurd e h.ne
  | some o => exact g.keep a o e)
theorem Grow.dom {F H F' H'} (g : Grow F H F' H') {a : Addr} (h : H a ≠ none) : H' a ≠ none := by
  cases e : H a with
  | none => exact absurd e h
  | some o => rw [g.keep a o e]; exact fun z => nomatch z
theorem Grow.rel {K a0 F H F' H' σ env} (g : Grow F H F' H') (R : Rel K a0 F H σ env) : Rel K a0 F' H' σ env where
  len := R.len
  fd := fun a h => (g.new a h).elim (fun z => g.dom (R.fd a z)) fun z => z.2
  fz := fun i d e => let ⟨v, h1, h2⟩ := R.fz i d e; ⟨v, h1, g.fz h2⟩
  ow := fun i d e => let ⟨a, h1, h2, h3⟩ := R.ow i d e; ⟨a, h1, fun z => (g.new a z).elim h2 fun w => h3.ne w.1, g.bd h3⟩
  mp := fun i d e => let ⟨h1, h2, h3⟩ := R.mp i d e; ⟨h1, fun z => (g.new a0 z).elim h2 fun w => h3.ne w.1, g.bd h3⟩
  ap := R.ap
/-- a new object -/
theorem Grow.new1 {F H p o} (hp : H p = none) : Grow F H F (upd H p o) := ⟨fun _ h => h, fun _ h => .inl h, fun a x e => by rw [upd_ne (ne_of_none e hp)]; exact e⟩
theorem Grow.newF {F H p o} (hp : H p = none) : Grow F H (fun a => F a ∨ a = p) (upd H p o) :=
  ⟨fun _ h => .inl h, fun a h => h.elim .inl fun z => .inr (by subst z; exact ⟨hp, by rw [upd_same]; exact fun z => nomatch z⟩), fun a x e => by rw [upd_ne (ne_of_none e hp)]; exact e⟩
theorem Grow.trans {F H F1 H1 F2 H2} (a : Grow F H F1 H1) (b : Grow F1 H1 F2 H2) : Grow F H F2 H2 :=
  ⟨fun x h => b.sub x (a.sub x h), fun x h => (b.new x h).elim (fun z => (a.new x z).elim .inl fun w => .inr ⟨w.1, b.dom w.2⟩) fun z => .inr ⟨(by
    cases e : H x with
    | none => rfl
    | some o => have z1 := z.1; rw [a.keep x o e] at z1; cases z1), z.2⟩, fun x o e => b.keep x o (a.keep x o e)⟩
end Ew

/-! EwExpr: judgements of expressions; names, constants, operators, tests, displays, calls. -/
namespace Ew
open PySem L2

abbrev Fn := En → Option (D × En)
abbrev Fb := En → Option (Bool × En)
abbrev Fa := En → Option (List D × En)
abbrev AR := (Addr → Prop) → Hp → V → D → Prop

/-! ### readings -/
def tE (K : PySem.W.Frag) (a0 : Addr) (f : Fn) : TE := fun σ H Q => ∃ F env, Rel K a0 F H σ env ∧ ∃ d env', f env = some (d, env') ∧
  ∀ v F' H', Stp F H σ env F' H' σ env' → Rel K a0 F' H' σ env' → Fz K F' H' v d → Q v H'
/-- a new object, owned by nobody yet -/
def tO (K : PySem.W.Frag) (a0 : Addr) (f : Fn) : TE := fun σ H Q => ∃ F env, Rel K a0 F H σ env ∧ ∃ d env', f env = some (d, env') ∧
  ∀ p F' H', Stp F H σ env F' H' σ env' → Rel K a0 F' H' σ env' → H p = none → ¬ F' p → ¬ Owned σ env' p → Bd K F' H' p d → Q (.ref p) H'
def tT (K : PySem.W.Frag) (a0 : Addr) (f : Fb) : TT := fun σ H Q => ∃ F env, Rel K a0 F H σ env ∧ ∃ b env', f env = some (b, env') ∧
  ∀ F' H', Stp F H σ env F' H' σ env' → Rel K a0 F' H' σ env' → Q b H'
def tAB (K : PySem.W.Frag) (a0 : Addr) (f : Fa) : TA := fun σ H R => ∃ F env, Rel K a0 F H σ env ∧ ∃ ds env', f env = some (ds, env') ∧
  ∀ vs F' H', Stp F H σ env F' H' σ env' → Rel K a0 F' H' σ env' → BrAll K F' H' vs ds → R vs H'
def tAF (K : PySem.W.Frag) (a0 : Addr) (f : Fa) : TA := fun σ H R => ∃ F env, Rel K a0 F H σ env ∧ ∃ ds env', f env = some (ds, env') ∧
  ∀ vs F' H', Stp F H σ env F' H' σ env' → Rel K a0 F' H' σ env' → FzAll K F' H' vs ds → R vs H'
structure SE (X : Cx) (a0 : Addr) (e : Expr) (f : Fn) : Prop where
  run : PE X e (tE X.K a0 f)
structure SO (X : Cx) (a0 : Addr) (e : Expr) (f : Fn) : Prop where
  run : PE X e (tO X.K a0 f)
structure ST (X : Cx) (a0 : Addr) (e : Expr) (f : Fb) : Prop where
  run : PT X e (tT X.K a0 f)
theorem PEimp {X : Cx} {e : Expr} {t t' : TE} (h : PE X e t) (i : ∀ σ H Q, t' σ H Q → t σ H Q) : PE X e t' := ⟨fun pins s σ H Q I q => h.run pins s σ H Q I (i _ _ _ q)⟩
theorem PTimp {X : Cx} {e : Expr} {t t' : TT} (h : PT X e t) (i : ∀ σ H Q, t' σ H Q → t σ H Q) : PT X e t' := ⟨fun pins s σ H Q I q => h.run pins s σ H Q I (i _ _ _ q)⟩
theorem PWimp {X : Cx} {e : Expr} {t t' : TT} (h : PW X e t) (i : ∀ σ H Q, t' σ H Q → t σ H Q) : PW X e t' := ⟨fun wh pins s σ H Q I q => h.run wh pins s σ H Q I (i _ _ _ q)⟩

def taOf : List TE → TA
  | [] => tNil
  | t :: ts => tCons t (taOf ts)
inductive PEs (X : Cx) : List Expr → List TE → Prop
  | nil : PEs X [] []
  | cons {e es t ts} : PE X e t → PEs X es ts → PEs X (e :: es) (t :: ts)
structure SA (X : Cx) (a0 : Addr) (es : List Expr) (f : Fa) : Prop where
  ex : ∃ ts, PEs X es ts ∧ PA X es (taOf ts) ∧ ∀ σ H R, tAB X.K a0 f σ H R → taOf ts σ H R
structure SF (X : Cx) (a0 : Addr) (es : List Expr) (f : Fa) : Prop where
  ex : ∃ ts, PEs X es ts ∧ PA X es (taOf ts) ∧ ∀ σ H R, tAF X.K a0 f σ H R → taOf ts σ H R

section
variable {K : PySem.W.Frag} {a0 : Addr} {F F' : Addr → Prop} {H H' : Hp} {σ : St} {env env' : En}
theorem Br.mono' {K a0 F H σ env F' H' env' v d} (S : Stp F H σ env F' H' σ env') (R : Rel K a0 F H σ env) (h : Fz K F H v d) : Br K F' H' v d := .inl (S.fz R h)
theorem FzAll.br : ∀ {vs : List V} {ds : List D}, FzAll K F H vs ds → BrAll K F H vs ds
  | _, _, .nil => .nil
  | _, _, .cons h t => .cons (.inl h) (FzAll.br t)
end
theorem Stp.new_of {F H σ env F' H' σ' env'} (S : Stp F H σ env F' H' σ' env') {p : Addr} (hp : H' p = none) : H p = none := by
  cases e : H p with
  | none => rfl
  | some o => exact absurd hp (S.dom p (by rw [e]; exact fun z => nomatch z))
theorem SF.sa {X a0 es f} (h : SF X a0 es f) : SA X a0 es f := by
  obtain ⟨ts, h1, h2, h3⟩ := h.ex
  exact ⟨ts, h1, h2, fun σ H R ⟨F, env, rel, ds, env', e, k⟩ => h3 σ H R ⟨F, env, rel, ds, env', e, fun vs F' H' S R' a => k vs F' H' S R' a.br⟩⟩
/-- a new object is frozen at once -/
theorem SO.se {X a0 e f} (h : SO X a0 e f) : SE X a0 e f := by
  refine ⟨PEimp h.run fun σ H Q ⟨F, env, rel, d, env', e, k⟩ => ⟨F, env, rel, d, env', e, fun p F' H' S R hp nf no b => ?_⟩⟩
  have hF : ∀ a, F' a → (fun a => F' a ∨ a = p) a := fun a z => .inl z
  refine k (.ref p) (fun a => F' a ∨ a = p) H' ⟨fun a z => .inl (S.sub a z), fun a z => ?_, S.keep, S.dom, S.own⟩ ⟨R.len, fun a z => z.elim (R.fd a) fun w => w ▸ b.ne, fun i d e => ?_, fun i d e => ?_, fun i d e => ?_, R.ap⟩ ((b.mono hF (fun _ _ e _ => e) rfl).fz (.inr rfl))
  · rcases z with z | z
    · exact S.new a z
    · exact .inr (.inl (z ▸ hp))
  · obtain ⟨v, h1, h2⟩ := R.fz i d e
    exact ⟨v, h1, h2.mono hF fun _ _ e _ => e⟩
  · obtain ⟨a, h1, h2, h3⟩ := R.ow i d e
    refine ⟨a, h1, fun z => z.elim h2 fun w => no ⟨i, ⟨_, e, rfl⟩, w ▸ h1⟩, h3.mono hF (fun _ _ e _ => e) rfl⟩
  · obtain ⟨h1, h2, h3⟩ := R.mp i d e
    refine ⟨h1, fun z => z.elim h2 fun w => no ⟨i, ⟨_, e, rfl⟩, w ▸ h1⟩, h3.mono hF (fun _ _ e _ => e) rfl⟩

/-! ### names and constants -/
def look (env : En) (i : Nat) : Option D := (env[i]?).bind Sl.val?
def vf (i : Nat) : Fn := fun env => match env[i]? with
  | some (.fz d) => some (d, env)
  | some (.ow d) => some (d, env.set i (.fz d))
  | _ => none
def cst (d : D) : Fn := fun env => some (d, env)
theorem Rel.look {K a0 F H σ env i d} (R : Rel K a0 F H σ env) (h : look env i = some d) : ∃ v, σ[i]? = some (some v) ∧ Br K F H v d := by
  unfold Ew.look at h
  cases e : env[i]? with
  | none => rw [e] at h; cases h
  | some s =>
    rw [e] at h
    cases s with
    | un => cases h
    | fz d' => cases h; obtain ⟨v, h1, h2⟩ := R.fz i _ e; exact ⟨v, h1, .inl h2⟩
    | ow d' => cases h; obtain ⟨a, h1, h2, h3⟩ := R.ow i _ e; exact ⟨_, h1, .inr ⟨a, rfl, h3⟩⟩
    | mp d' => cases h; obtain ⟨h1, h2, h3⟩ := R.mp i _ e; exact ⟨_, h1, .inr ⟨a0, rfl, h3⟩⟩
theorem owAt_set {env : En} {i j : Nat} {d : D} (h : OwAt (env.set i (.fz d)) j) : j ≠ i ∧ OwAt env j := by
  obtain ⟨s, e, w⟩ := h
  by_cases hj : i = j
  · subst hj
    by_cases hl : i < env.length
    · rw [List.getElem?_set_self hl] at e
      cases e; cases w
    · rw [List.getElem?_eq_none (by simpa using hl)] at e; cases e
  · rw [List.getElem?_set_ne hj] at e
    exact ⟨fun z => hj z.symm, s, e, w⟩
/-- what a name owns is frozen -/
theorem Rel.freeze {K a0 F H σ env i d a} (R : Rel K a0 F H σ env) (e : env[i]? = some (.ow d)) (ha : σ[i]? = some (some (.ref a))) (nf : ¬ F a) (b : Bd K F H a d) :
    Stp F H σ env (fun x => F x ∨ x = a) H σ (env.set i (.fz d)) ∧ Rel K a0 (fun x => F x ∨ x = a) H σ (env.set i (.fz d)) ∧ Fz K (fun x => F x ∨ x = a) H (.ref a) d := by
  have hF : ∀ x, F x → (fun x => F x ∨ x = a) x := fun x z => .inl z
  have hk : ∀ x o, H x = some o → (F x ∨ ¬ Mut (some o)) → H x = some o := fun _ _ e _ => e
  have fza : Fz K (fun x => F x ∨ x = a) H (.ref a) d := (b.mono hF hk rfl).fz (.inr rfl)
  have hil : i < env.length := (List.getElem?_eq_some_iff.mp e).1
  have oi : OwAt env i := ⟨_, e, rfl⟩
  refine ⟨⟨hF, fun x z => z.elim .inl fun w => .inr (.inr ⟨i, oi, w ▸ ha⟩), fun x o h _ => h, fun x h => h, fun x ⟨j, w, q⟩ => .inl ⟨j, (owAt_set w).2, q⟩⟩, ⟨by simpa using R.len, fun x z => z.elim (R.fd x) fun w => w ▸ b.ne, fun j d' e' => ?_, fun j d' e' => ?_, fun j d' e' => ?_, fun j k x hjk w w' => R.ap j k x hjk (owAt_set w).2 (owAt_set w').2⟩, fza⟩
  · by_cases hj : i = j
    · subst hj
      rw [List.getElem?_set_self hil] at e'
      cases e'
      exact ⟨_, ha, fza⟩
    · rw [List.getElem?_set_ne hj] at e'
      obtain ⟨v, h1, h2⟩ := R.fz j d' e'
      exact ⟨v, h1, h2.mono hF hk⟩
  · by_cases hj : i = j
    · subst hj
      rw [List.getElem?_set_self hil] at e'
      cases e'
    · rw [List.getElem?_set_ne hj] at e'
      obtain ⟨x, h1, h2, h3⟩ := R.ow j d' e'
      exact ⟨x, h1, fun z => z.elim h2 fun w => R.ap i j a hj oi ⟨_, e', rfl⟩ ha (w ▸ h1), h3.mono hF hk rfl⟩
  · by_cases hj : i = j
    · subst hj
      rw [List.getElem?_set_self hil] at e'
      cases e'
    · rw [List.getElem?_set_ne hj] at e'
      obtain ⟨h1, h2, h3⟩ := R.mp j d' e'
      exact ⟨h1, fun z => z.elim h2 fun w => R.ap i j a hj oi ⟨_, e', rfl⟩ ha (w ▸ h1), h3.mono hF hk rfl⟩
section
variable {X : Cx} {a0 : Addr} {e a b c : Expr} {es : List Expr} {f g h : Fn} {pos : Pos}
theorem se_name {i : Nat} {x : Str} (hN : X.N[i]? = some x) (hv : Vis X.env.scope x) (hd : (x == ("__debug__" : Str)) = false := by decide) (hcd : (x == ("__classdict__" : Str)) = false := by decide) : SE X a0 (.Name x pos) (vf i) := by
  refine ⟨PEimp (pe_var hN hv hd hcd) fun σ H Q ⟨F, env, R, d, env', e, k⟩ => ?_⟩
  unfold vf at e
  cases q : env[i]? with
  | none => rw [q] at e; cases e
  | some s =>
    rw [q] at e
    cases s with
    | un => cases e
    | mp d => cases e
    | fz d' =>
      cases e
      obtain ⟨v, h1, h2⟩ := R.fz i _ q
      exact ⟨v, h1, k v F H Stp.refl R h2⟩
    | ow d' =>
      cases e
      obtain ⟨a, h1, h2, h3⟩ := R.ow i _ q
      obtain ⟨S, R', fa⟩ := R.freeze q h1 h2 h3
      exact ⟨_, h1, k _ _ H S R' fa⟩
theorem se_cst {e : Expr} {v : V} {d : D} (h : PE X e (tC v)) (r : ∀ K F H, Fz K F H v d) : SE X a0 e (cst d) :=
  ⟨PEimp h fun σ H Q ⟨F, env, R, d', env', e, k⟩ => by cases e; exact k v F H Stp.refl R (r _ _ _)⟩
theorem se_int {i j} : SE X a0 (.Constant (.int i) j pos) (cst (.int i)) := se_cst pe_int fun _ _ _ => .int i
theorem se_bl {i j} : SE X a0 (.Constant (.bool i) j pos) (cst (.bool i)) := se_cst pe_bl fun _ _ _ => .bl i
theorem se_non {j} : SE X a0 (.Constant .none j pos) (cst .none) := se_cst pe_non fun _ _ _ => .non
theorem se_str {i j} : SE X a0 (.Constant (.str i) j pos) (cst (.str i)) := se_cst pe_str fun _ _ _ => .str i
/-- a module's constant that is an int, a text -/
theorem se_gint {x : Str} {i : Int} {t : Tok} (hg : Gl X x) (hm : X.mg x = some (.int i t)) (hd : (x == ("__debug__" : Str)) = false := by decide) : SE X a0 (.Name x pos) (cst (.int i)) := se_cst (pe_glob (v := .int i) hg hm ⟨_, rfl⟩ hd) fun _ _ _ => .int i
theorem se_gstr {x i : Str} {t : Tok} (hg : Gl X x) (hm : X.mg x = some (.str i t)) (hd : (x == ("__debug__" : Str)) = false := by decide) : SE X a0 (.Name x pos) (cst (.str i)) := se_cst (pe_glob (v := .str i) hg hm ⟨_, rfl⟩ hd) fun _ _ _ => .str i

/-! ### several in a row -/
def nilA : Fa := fun env => some ([], env)
def consA (f : Fn) (g : Fa) : Fa := fun env => (f env).bind fun x => (g x.2).bind fun y => some (x.1 :: y.1, y.2)
def consV (i : Nat) (g : Fa) : Fa := fun env => (look env i).bind fun _ => (g env).bind fun y => (look y.2 i).bind fun d => some (d :: y.1, y.2)
theorem sf_nil : SF X a0 [] nilA := ⟨[], .nil, pa_nil, fun σ H R ⟨F, env, rel, ds, env', e, k⟩ => by cases e; exact k [] F H Stp.refl rel .nil⟩
theorem sa_nil : SA X a0 [] nilA := sf_nil.sa
theorem sf_cons {g : Fa} (he : SE X a0 e f) (hr : SF X a0 es g) (hs : starEach (e :: es) X.env = (false, eval e X.env) :: starEach es X.env := by rfl) : SF X a0 (e :: es) (consA f g) := by
  obtain ⟨ts, h1, h2, h3⟩ := hr.ex
  refine ⟨_ :: ts, .cons he.run h1, pa_cons he.run h2 hs, fun σ H R ⟨F, env, rel, ds, env', q, k⟩ => ?_⟩
  obtain ⟨⟨d, env1⟩, q1, q⟩ := Option.bind_eq_some_iff.mp q
  obtain ⟨⟨ds', env2⟩, q2, q⟩ := Option.bind_eq_some_iff.mp q
  cases q
  refine ⟨F, env, rel, d, env1, q1, fun v F1 H1 S1 R1 z1 => h3 σ H1 _ ⟨F1, env1, R1, ds', env2, q2, fun vs F2 H2 S2 R2 z2 => ?_⟩⟩
  exact k _ F2 H2 (S1.trans S2) R2 (.cons (S2.fz R1 z1) z2)
theorem sa_cons {g : Fa} (he : SE X a0 e f) (hr : SA X a0 es g) (hs : starEach (e :: es) X.env = (false, eval e X.env) :: starEach es X.env := by rfl) : SA X a0 (e :: es) (consA f g) := by
  obtain ⟨ts, h1, h2, h3⟩ := hr.ex
  refine ⟨_ :: ts, .cons he.run h1, pa_cons he.run h2 hs, fun σ H R ⟨F, env, rel, ds, env', q, k⟩ => ?_⟩
  obtain ⟨⟨d, env1⟩, q1, q⟩ := Option.bind_eq_some_iff.mp q
  obtain ⟨⟨ds', env2⟩, q2, q⟩ := Option.bind_eq_some_iff.mp q
  cases q
  refine ⟨F, env, rel, d, env1, q1, fun v F1 H1 S1 R1 z1 => h3 σ H1 _ ⟨F1, env1, R1, ds', env2, q2, fun vs F2 H2 S2 R2 z2 => ?_⟩⟩
  exact k _ F2 H2 (S1.trans S2) R2 (.cons (.inl (S2.fz R1 z1)) z2)
theorem sa_var {g : Fa} {i : Nat} {x : Str} (hN : X.N[i]? = some x) (hv : Vis X.env.scope x) (hr : SA X a0 es g) (hs : starEach (.Name x pos :: es) X.env = (false, eval (.Name x pos) X.env) :: starEach es X.env := by rfl)
    (hd : (x == ("__debug__" : Str)) = false := by decide) (hcd : (x == ("__classdict__" : Str)) = false := by decide) : SA X a0 (.Name x pos :: es) (consV i g) := by
  obtain ⟨ts, h1, h2, h3⟩ := hr.ex
  refine ⟨_ :: ts, .cons (pe_var hN hv hd hcd) h1, pa_cons (pe_var hN hv hd hcd) h2 hs, fun σ H R ⟨F, env, rel, ds, env', q, k⟩ => ?_⟩
  obtain ⟨d0, q0, q⟩ := Option.bind_eq_some_iff.mp q
  obtain ⟨⟨ds', env2⟩, q2, q⟩ := Option.bind_eq_some_iff.mp q
  obtain ⟨d, q3, q⟩ := Option.bind_eq_some_iff.mp q
  cases q
  obtain ⟨v, hv, _⟩ := rel.look q0
  refine ⟨v, hv, h3 σ H _ ⟨F, env, rel, ds', env2, q2, fun vs F2 H2 S2 R2 z2 => ?_⟩⟩
  obtain ⟨v', hv', z⟩ := R2.look q3
  rw [hv] at hv'; cases hv'
  exact k _ F2 H2 S2 R2 (.cons z z2)

/-! ### operators -/
def rP2 (K : PySem.W.Frag) (g : D → D → Option D) : R2 := fun x y H Q => ∃ F a b d, (∀ a : Addr, F a → H a ≠ none) ∧ Br K F H x a ∧ Br K F H y b ∧ g a b = some d ∧ ∀ v F' H', Grow F H F' H' → Fz K F' H' v d → Q v H'
def rO2 (K : PySem.W.Frag) (g : D → D → Option D) : R2 := fun x y H Q => ∃ F a b d, (∀ a : Addr, F a → H a ≠ none) ∧ Br K F H x a ∧ Br K F H y b ∧ g a b = some d ∧ ∀ p F' H', Grow F H F' H' → H p = none → ¬ F' p → Bd K F' H' p d → Q (.ref p) H'
def op2 (g : D → D → Option D) (f : Fa) : Fn := fun env => (f env).bind fun x => match x.1 with
  | [a, b] => (g a b).bind fun d => some (d, x.2)
  | _ => none
theorem op2_inv {g : D → D → Option D} {f : Fa} {env env' : En} {d : D} (q : op2 g f env = some (d, env')) : ∃ a b, f env = some ([a, b], env') ∧ g a b = some d := by
  unfold op2 at q
  obtain ⟨⟨ds, env1⟩, q1, q⟩ := Option.bind_eq_some_iff.mp q
  match ds, q1, q with
  | [a, b], q1, q =>
    obtain ⟨d', q2, q⟩ := Option.bind_eq_some_iff.mp q
    cases q
    exact ⟨a, b, q1, q2⟩
  | [], _, q => exact nomatch q
  | [_], _, q => exact nomatch q
  | _ :: _ :: _ :: _, _, q => exact nomatch q
theorem brall2 {K F H x y a b} (h : BrAll K F H [x, y] [a, b]) : Br K F H x a ∧ Br K F H y b := by
  cases h with
  | cons h1 h2 => cases h2 with
    | cons h2 _ => exact ⟨h1, h2⟩
theorem two_of {K F H vs a b} (h : BrAll K F H vs [a, b]) : ∃ x y, vs = [x, y] ∧ Br K F H x a ∧ Br K F H y b := by
  cases h with
  | cons h1 h2 => cases h2 with
    | cons h2 h3 => cases h3; exact ⟨_, _, rfl, h1, h2⟩
theorem run2 {r : R2} {ta tb : TE} {fa : Fa} {σ : St} {H : Hp} {Q : VK} (sem : ∀ R, tAB X.K a0 fa σ H R → taOf [ta, tb] σ H R) (h : tAB X.K a0 fa σ H fun vs H2 => r (vs.getD 0 .non) (vs.getD 1 .non) H2 Q) : tOp r ta tb σ H Q :=
  sem (fun vs H2 => r (vs.getD 0 .non) (vs.getD 1 .non) H2 Q) h
theorem p2_run {r : D → D → Option D} {fa : Fa} {σ : St} {H : Hp} {Q : VK} (h : tE X.K a0 (op2 r fa) σ H Q) : tAB X.K a0 fa σ H fun vs H2 => rP2 X.K r (vs.getD 0 .non) (vs.getD 1 .non) H2 Q := by
  obtain ⟨F, env, R, d, env', q, k⟩ := h
  obtain ⟨a, b, q1, q2⟩ := op2_inv q
  refine ⟨F, env, R, _, env', q1, fun vs F1 H1 S1 R1 z => ?_⟩
  obtain ⟨x, y, rfl, hx, hy⟩ := two_of z
  exact ⟨F1, a, b, d, R1.fd, hx, hy, q2, fun v F' H' G fv => k v F' H' (S1.trans G.stp) (G.rel R1) fv⟩
theorem o2_run {r : D → D → Option D} {fa : Fa} {σ : St} {H : Hp} {Q : VK} (h : tO X.K a0 (op2 r fa) σ H Q) : tAB X.K a0 fa σ H fun vs H2 => rO2 X.K r (vs.getD 0 .non) (vs.getD 1 .non) H2 Q := by
  obtain ⟨F, env, R, d, env', q, k⟩ := h
  obtain ⟨a, b, q1, q2⟩ := op2_inv q
  refine ⟨F, env, R, _, env', q1, fun vs F1 H1 S1 R1 z => ?_⟩
  obtain ⟨x, y, rfl, hx, hy⟩ := two_of z
  exact ⟨F1, a, b, d, R1.fd, hx, hy, q2, fun p F' H' G hp nf bd => k p F' H' (S1.trans G.stp) (G.rel R1) (S1.new_of hp) nf (fun w => (R1.owned w).2.2 hp) bd⟩
theorem se_op2 {op : Operator} {g : D → D → Option D} {fa : Fa} (ho : OpR X (binaryOp op) (rP2 X.K g)) (ha : SA X a0 [a, b] fa) : SE X a0 (.BinOp a op b pos) (op2 g fa) := by
  obtain ⟨ts, h1, _, h3⟩ := ha.ex
  cases h1 with
  | cons p1 h1 => cases h1 with
    | cons p2 h1 =>
      cases h1
      exact ⟨PEimp (pe_op ho p1 p2) fun σ H Q q => run2 (a0 := a0) (h3 σ H) (p2_run q)⟩
theorem so_op2 {op : Operator} {g : D → D → Option D} {fa : Fa} (ho : OpR X (binaryOp op) (rO2 X.K g)) (ha : SA X a0 [a, b] fa) : SO X a0 (.BinOp a op b pos) (op2 g fa) := by
  obtain ⟨ts, h1, _, h3⟩ := ha.ex
  cases h1 with
  | cons p1 h1 => cases h1 with
    | cons p2 h1 =>
      cases h1
      exact ⟨PEimp (pe_op ho p1 p2) fun σ H Q q => run2 (a0 := a0) (h3 σ H) (o2_run q)⟩
theorem se_cmp {op : CmpOp} {g : D → D → Option D} {fa : Fa} (ho : OpR X (compareOp op) (rP2 X.K g)) (ha : SA X a0 [a, b] fa) (hm : behindInMarks op b = false) : SE X a0 (.Compare a [op] [b] pos) (op2 g fa) := by
  obtain ⟨ts, h1, _, h3⟩ := ha.ex
  cases h1 with
  | cons p1 h1 => cases h1 with
    | cons p2 h1 =>
      cases h1
      exact ⟨PEimp (pe_cmpR ho p1 p2 hm) fun σ H Q q => run2 (a0 := a0) (h3 σ H) (p2_run q)⟩
/-- a[b] -/
theorem se_ix {g : D → D → Option D} {fa : Fa} (ho : IxR X (rP2 X.K g)) (ha : SA X a0 [a, b] fa) (hs : PlainIx b) : SE X a0 (.Subscript a b pos) (op2 g fa) := by
  obtain ⟨ts, h1, _, h3⟩ := ha.ex
  cases h1 with
  | cons p1 h1 => cases h1 with
    | cons p2 h1 =>
      cases h1
      exact ⟨PEimp (pe_ix ho p1 p2 hs) fun σ H Q q => run2 (a0 := a0) (h3 σ H) (p2_run q)⟩

/-! ### tests -/
def asB (f : Fn) : Fb := fun env => (f env).bind fun x => match x.1 with
  | .bool b => some (b, x.2)
  | _ => none
theorem asB_inv {f : Fn} {env env' : En} {b : Bool} (q : asB f env = some (b, env')) : f env = some (.bool b, env') := by
  unfold asB at q
  obtain ⟨⟨d, env1⟩, q1, q⟩ := Option.bind_eq_some_iff.mp q
  cases d <;> first | cases q | skip
  exact q1
theorem fz_bool {K F H v b} (h : Fz K F H v (.bool b)) : v = .bl b := by cases h; rfl
theorem asB_run {f : Fn} {σ : St} {H : Hp} {Q : Bool → Hp → Prop} (h : tT X.K a0 (asB f) σ H Q) : tE X.K a0 f σ H fun x H' => ∃ k, x = .bl k ∧ Q k H' := by
  obtain ⟨F, env, R, b, env', q, k⟩ := h
  exact ⟨F, env, R, _, env', asB_inv q, fun v F' H' S R' z => ⟨b, fz_bool z, k F' H' S R'⟩⟩
/-- an expression that gives True or False, as a test -/
theorem st_val (h : SE X a0 e f) (he : ∀ whole, isTrue e X.env whole = (do let v ← whole; standAt e.pos; holding [v] (truthy v)) := by intro _; rfl) : ST X a0 e (asB f) :=
  ⟨PTimp (pt_val h.run he) fun σ H Q q => asB_run q⟩
theorem st_cmp {op : CmpOp} {g : D → D → Option D} {fa : Fa} (ho : OpR X (compareOp op) (rP2 X.K g)) (ha : SA X a0 [a, b] fa) (hm : behindInMarks op b = false) : ST X a0 (.Compare a [op] [b] pos) (asB (op2 g fa)) := by
  obtain ⟨ts, h1, _, h3⟩ := ha.ex
  cases h1 with
  | cons p1 h1 => cases h1 with
    | cons p2 h1 =>
      cases h1
      exact ⟨PTimp (pt_cmpR ho p1 p2 hm) fun σ H Q q => run2 (a0 := a0) (h3 σ H) (p2_run (asB_run q))⟩
def andT (f g : Fb) : Fb := fun env => (f env).bind fun x => if x.1 = true then g x.2 else some (false, x.2)
def orT (f g : Fb) : Fb := fun env => (f env).bind fun x => if x.1 = true then some (true, x.2) else g x.2
def notT (f : Fb) : Fb := fun env => (f env).bind fun x => some (!x.1, x.2)
variable {fb gb : Fb} {rest : List Expr}
structure SW (X : Cx) (a0 : Addr) (e : Expr) (f : Fb) : Prop where
  run : PW X e (tT X.K a0 f)
theorem SW.st (h : SW X a0 e fb) : ST X a0 e fb := ⟨h.run.pt⟩
theorem sw_and1 (h : ST X a0 a fb) : SW X a0 (.BoolOp .And [a] pos) fb := ⟨pw_and1 h.run⟩
theorem sw_or1 (h : ST X a0 a fb) : SW X a0 (.BoolOp .Or [a] pos) fb := ⟨pw_or1 h.run⟩
theorem tseq {f : Fb} {σ : St} {H : Hp} {Q : Bool → Hp → Prop} {F : Addr → Prop} {env : En} {b : Bool} {env' : En} (R : Rel X.K a0 F H σ env) (q : f env = some (b, env')) (k : ∀ F' H', Stp F H σ env F' H' σ env' → Rel X.K a0 F' H' σ env' → Q b H') : tT X.K a0 f σ H Q := ⟨F, env, R, b, env', q, k⟩
theorem sw_and (h1 : ST X a0 a fb) (h2 : SW X a0 (.BoolOp .And (b :: rest) pos) gb) : SW X a0 (.BoolOp .And (a :: b :: rest) pos) (andT fb gb) := by
  refine ⟨PWimp (pw_and h1.run h2.run) fun σ H Q ⟨F, env, R, b, env', q, k⟩ => ?_⟩
  obtain ⟨⟨b1, env1⟩, q1, q⟩ := Option.bind_eq_some_iff.mp q
  refine tseq R q1 fun F1 H1 S1 R1 => ?_
  cases b1 with
  | true =>
    rw [if_pos rfl] at q ⊢
    exact tseq R1 q fun F2 H2 S2 R2 => k F2 H2 (S1.trans S2) R2
  | false =>
    rw [if_neg Bool.false_ne_true] at q ⊢
    cases q
    exact k F1 H1 S1 R1
theorem sw_or (h1 : ST X a0 a fb) (h2 : SW X a0 (.BoolOp .Or (b :: rest) pos) gb) : SW X a0 (.BoolOp .Or (a :: b :: rest) pos) (orT fb gb) := by
  refine ⟨PWimp (pw_or h1.run h2.run) fun σ H Q ⟨F, env, R, b, env', q, k⟩ => ?_⟩
  obtain ⟨⟨b1, env1⟩, q1, q⟩ := Option.bind_eq_some_iff.mp q
  refine tseq R q1 fun F1 H1 S1 R1 => ?_
  cases b1 with
  | false =>
    rw [if_neg Bool.false_ne_true] at q ⊢
    exact tseq R1 q fun F2 H2 S2 R2 => k F2 H2 (S1.trans S2) R2
  | true =>
    rw [if_pos rfl] at q ⊢
    cases q
    exact k F1 H1 S1 R1
theorem st_not (h : ST X a0 a fb) : ST X a0 (.UnaryOp .Not a pos) (notT fb) := by
  refine ⟨PTimp (pt_not h.run) fun σ H Q ⟨F, env, R, b, env', q, k⟩ => ?_⟩
  obtain ⟨⟨b1, env1⟩, q1, q⟩ := Option.bind_eq_some_iff.mp q
  cases q
  exact tseq R q1 fun F1 H1 S1 R1 => k F1 H1 S1 R1
def ifE (c : Fb) (f g : Fn) : Fn := fun env => (c env).bind fun x => if x.1 = true then f x.2 else g x.2
theorem se_if (hc : ST X a0 c fb) (ha : SE X a0 a f) (hb : SE X a0 b g) : SE X a0 (.IfExp c a b pos) (ifE fb f g) := by
  refine ⟨PEimp (pe_ifExp hc.run ha.run hb.run) fun σ H Q ⟨F, env, R, d, env', q, k⟩ => ?_⟩
  obtain ⟨⟨b1, env1⟩, q1, q⟩ := Option.bind_eq_some_iff.mp q
  refine tseq R q1 fun F1 H1 S1 R1 => ?_
  cases b1 with
  | true =>
    rw [if_pos rfl] at q ⊢
    exact ⟨F1, env1, R1, d, env', q, fun v F2 H2 S2 R2 z => k v F2 H2 (S1.trans S2) R2 z⟩
  | false =>
    rw [if_neg Bool.false_ne_true] at q ⊢
    exact ⟨F1, env1, R1, d, env', q, fun v F2 H2 S2 R2 z => k v F2 H2 (S1.trans S2) R2 z⟩
/-- a test as a value -/
def ofB (f : Fb) : Fn := fun env => (f env).bind fun x => some (.bool x.1, x.2)
theorem ofB_of {f : Fn} : ∀ {env : En} {d : D} {env' : En}, ofB (asB f) env = some (d, env') → f env = some (d, env') := fun {env d env'} h => by
  obtain ⟨⟨b, env1⟩, q1, q⟩ := Option.bind_eq_some_iff.mp h
  cases q
  exact asB_inv q1
def andV (f g : Fn) : Fn := fun env => (f env).bind fun x => match x.1 with
  | .bool true => g x.2
  | .bool false => some (.bool false, x.2)
  | _ => none
def orV (f g : Fn) : Fn := fun env => (f env).bind fun x => match x.1 with
  | .bool false => g x.2
  | .bool true => some (.bool true, x.2)
  | _ => none
def notV (f : Fn) : Fn := fun env => (f env).bind fun x => match x.1 with
  | .bool b => some (.bool (!b), x.2)
  | _ => none
theorem se_one {op : BoolOp} (h : SE X a0 a f) : SE X a0 (.BoolOp op [a] pos) f := ⟨pe_one h.run⟩
theorem se_and (h1 : SE X a0 a f) (h2 : SE X a0 (.BoolOp .And (b :: rest) pos) g) : SE X a0 (.BoolOp .And (a :: b :: rest) pos) (andV f g) := by
  refine ⟨PEimp (pe_and h1.run h2.run) fun σ H Q ⟨F, env, R, d, env', q, k⟩ => ?_⟩
  obtain ⟨⟨d1, env1⟩, q1, q⟩ := Option.bind_eq_some_iff.mp q
  refine ⟨F, env, R, d1, env1, q1, fun v F1 H1 S1 R1 z => ?_⟩
  match d1, z, q with
  | .bool true, z, q => exact ⟨true, fz_bool z, by rw [if_pos rfl]; exact ⟨F1, env1, R1, d, env', q, fun v F2 H2 S2 R2 z => k v F2 H2 (S1.trans S2) R2 z⟩⟩
  | .bool false, z, q =>
    cases q
    exact ⟨false, fz_bool z, by rw [if_neg Bool.false_ne_true]; exact k _ F1 H1 S1 R1 (.bl false)⟩
  | .none, _, q => exact nomatch q
  | .int _, _, q => exact nomatch q
  | .str _, _, q => exact nomatch q
  | .list _, _, q => exact nomatch q
  | .tuple _, _, q => exact nomatch q
  | .dict _, _, q => exact nomatch q
theorem se_or (h1 : SE X a0 a f) (h2 : SE X a0 (.BoolOp .Or (b :: rest) pos) g) : SE X a0 (.BoolOp .Or (a :: b :: rest) pos) (orV f g) := by
  refine ⟨PEimp (pe_or h1.run h2.run) fun σ H Q ⟨F, env, R, d, env', q, k⟩ => ?_⟩
  obtain ⟨⟨d1, env1⟩, q1, q⟩ := Option.bind_eq_some_iff.mp q
  refine ⟨F, env, R, d1, env1, q1, fun v F1 H1 S1 R1 z => ?_⟩
  match d1, z, q with
  | .bool false, z, q => exact ⟨false, fz_bool z, by rw [if_neg Bool.false_ne_true]; exact ⟨F1, env1, R1, d, env', q, fun v F2 H2 S2 R2 z => k v F2 H2 (S1.trans S2) R2 z⟩⟩
  | .bool true, z, q =>
    cases q
    exact ⟨true, fz_bool z, by rw [if_pos rfl]; exact k _ F1 H1 S1 R1 (.bl true)⟩
  | .none, _, q => exact nomatch q
  | .int _, _, q => exact nomatch q
  | .str _, _, q => exact nomatch q
  | .list _, _, q => exact nomatch q
  | .tuple _, _, q => exact nomatch q
  | .dict _, _, q => exact nomatch q
theorem se_not (h1 : SE X a0 a f) : SE X a0 (.UnaryOp .Not a pos) (notV f) := by
  refine ⟨PEimp (pe_not h1.run) fun σ H Q ⟨F, env, R, d, env', q, k⟩ => ?_⟩
  obtain ⟨⟨d1, env1⟩, q1, q⟩ := Option.bind_eq_some_iff.mp q
  refine ⟨F, env, R, d1, env1, q1, fun v F1 H1 S1 R1 z => ?_⟩
  match d1, z, q with
  | .bool b, z, q =>
    cases q
    exact ⟨b, fz_bool z, k _ F1 H1 S1 R1 (.bl _)⟩
  | .none, _, q => exact nomatch q
  | .int _, _, q => exact nomatch q
  | .str _, _, q => exact nomatch q
  | .list _, _, q => exact nomatch q
  | .tuple _, _, q => exact nomatch q
  | .dict _, _, q => exact nomatch q

/-! ### displays -/
def tupD (f : Fa) : Fn := fun env => (f env).bind fun x => if x.1.length ≤ 1000 then some (.tuple x.1, x.2) else none
def lstD (f : Fa) : Fn := fun env => (f env).bind fun x => if x.1.length ≤ 1000 then some (.list x.1, x.2) else none
theorem len1000 {n : Nat} (h : n ≤ 1000) : n ≤ sizeLine := by rw [sizeLine_eq]; omega
theorem se_tup {fa : Fa} {k : Nat} (h : SF X a0 es fa) : SE X a0 (.Tuple es k pos) (tupD fa) := by
  obtain ⟨ts, _, h2, h3⟩ := h.ex
  refine ⟨PEimp (pe_tup h2) fun σ H Q ⟨F, env, R, d, env', q, k⟩ => h3 σ H _ ?_⟩
  obtain ⟨⟨ds, env1⟩, q1, q⟩ := Option.bind_eq_some_iff.mp q
  by_cases hl : ds.length ≤ 1000
  · rw [if_pos hl] at q
    cases q
    refine ⟨F, env, R, ds, env1, q1, fun vs F1 H1 S1 R1 z => ⟨len1000 (by rw [z.length]; exact hl), fun p hp => ?_⟩⟩
    have G : Grow F1 H1 F1 (upd H1 p (.tup vs)) := Grow.new1 hp
    exact k _ F1 _ (S1.trans G.stp) (G.rel R1) (.tup (SqT.of upd_same) (G.fzAll z))
  · rw [if_neg hl] at q; cases q
theorem so_lst {fa : Fa} (h : SF X a0 es fa) : SO X a0 (.List es pos) (lstD fa) := by
  obtain ⟨ts, _, h2, h3⟩ := h.ex
  refine ⟨PEimp (pe_lst h2) fun σ H Q ⟨F, env, R, d, env', q, k⟩ => h3 σ H _ ?_⟩
  obtain ⟨⟨ds, env1⟩, q1, q⟩ := Option.bind_eq_some_iff.mp q
  by_cases hl : ds.length ≤ 1000
  · rw [if_pos hl] at q
    cases q
    refine ⟨F, env, R, ds, env1, q1, fun vs F1 H1 S1 R1 z => ⟨len1000 (by rw [z.length]; exact hl), fun p hp => ?_⟩⟩
    have G : Grow F1 H1 F1 (upd H1 p (.lst vs)) := Grow.new1 hp
    exact k p F1 _ (S1.trans G.stp) (G.rel R1) (S1.new_of hp) (fun z => R1.fd p z hp) (fun w => (R1.owned w).2.2 hp) (.lst upd_same (G.fzAll z))
  · rw [if_neg hl] at q; cases q
end
end Ew

/-! EwStmt: judgements of statements, targets, walks; loops; comprehensions. -/
namespace Ew
open PySem L2

inductive Fl where
  | nx | bk | ct | rt (d : D)
abbrev Fs := En → Option (Fl × En)
def RetOk (K : PySem.W.Frag) (fr : Bool) (F : Addr → Prop) (H : Hp) (σ : St) (env : En) (F' : Addr → Prop) (H' : Hp) (σ' : St) (env' : En) (v : V) (d : D) : Prop :=
  if fr = true then ∃ p, v = .ref p ∧ ¬ F' p ∧ (Owned σ env p ∨ H p = none) ∧ ¬ Owned σ' env' p ∧ Bd K F' H' p d else Fz K F' H' v d
def FlK (K : PySem.W.Frag) (a0 : Addr) (fr : Bool) (F : Addr → Prop) (H : Hp) (σ : St) (env : En) (Z : Ends) (fl : Fl) (env' : En) : Prop :=
  match fl with
  | .nx => ∀ σ' F' H', Stp F H σ env F' H' σ' env' → Rel K a0 F' H' σ' env' → Z.nx σ' H'
  | .bk => ∀ σ' F' H', Stp F H σ env F' H' σ' env' → Rel K a0 F' H' σ' env' → Z.bk σ' H'
  | .ct => ∀ σ' F' H', Stp F H σ env F' H' σ' env' → Rel K a0 F' H' σ' env' → Z.ct σ' H'
  | .rt d => ∀ v σ' F' H', Stp F H σ env F' H' σ' env' → Rel K a0 F' H' σ' env' → RetOk K fr F H σ env F' H' σ' env' v d → Z.rt v H'
def tS (K : PySem.W.Frag) (a0 : Addr) (fr : Bool) (g : Fs) : TS := fun Z σ H => ∃ F env, Rel K a0 F H σ env ∧ ∃ fl env', g env = some (fl, env') ∧ FlK K a0 fr F H σ env Z fl env'
structure SS (X : Cx) (a0 : Addr) (fr : Bool) (st : Stmt) (g : Fs) : Prop where
  run : PS X st (tS X.K a0 fr g)
structure SB (X : Cx) (a0 : Addr) (fr : Bool) (sts : List Stmt) (g : Fs) : Prop where
  run : PSs X sts (tS X.K a0 fr g)
theorem PSimp {X : Cx} {st : Stmt} {t t' : TS} (h : PS X st t) (i : ∀ Z σ H, t' Z σ H → t Z σ H) : PS X st t' := ⟨fun pins s σ H Z I q => h.run pins s σ H Z I (i _ _ _ q)⟩
theorem PSsimp {X : Cx} {st : List Stmt} {t t' : TS} (h : PSs X st t) (i : ∀ Z σ H, t' Z σ H → t Z σ H) : PSs X st t' := ⟨fun pins s σ H Z I q => h.run pins s σ H Z I (i _ _ _ q)⟩

section
variable {K : PySem.W.Frag} {a0 : Addr} {fr : Bool} {F F1 : Addr → Prop} {H H1 : Hp} {σ σ1 : St} {env env1 env' : En} {Z : Ends} {fl : Fl}
theorem FlK.step (S : Stp F H σ env F1 H1 σ1 env1) (h : FlK K a0 fr F H σ env Z fl env') : FlK K a0 fr F1 H1 σ1 env1 Z fl env' := by
  cases fl with
  | nx => exact fun σ' F' H' S' R' => h σ' F' H' (S.trans S') R'
  | bk => exact fun σ' F' H' S' R' => h σ' F' H' (S.trans S') R'
  | ct => exact fun σ' F' H' S' R' => h σ' F' H' (S.trans S') R'
  | rt d =>
    intro v σ' F' H' S' R' r
    refine h v σ' F' H' (S.trans S') R' ?_
    unfold RetOk at r ⊢
    cases fr with
    | false => exact r
    | true =>
      obtain ⟨p, h1, h2, h3, h4, h5⟩ := r
      refine ⟨p, h1, h2, ?_, h4, h5⟩
      rcases h3 with h3 | h3
      · exact S.own p h3
      · exact .inr (S.new_of h3)
/-- other ends for what does not end so -/
theorem FlK.nx_of (h : FlK K a0 fr F H σ env Z fl env') (hn : fl ≠ .nx) (f : St → Hp → Prop) : FlK K a0 fr F H σ env { Z with nx := f } fl env' := by
  cases fl with
  | nx => exact absurd rfl hn
  | bk => exact h
  | ct => exact h
  | rt d => exact h
end

/-! ### blocks -/
def skipS : Fs := fun env => some (.nx, env)
def seqS (f g : Fs) : Fs := fun env => (f env).bind fun x => match x.1 with
  | .nx => g x.2
  | fl => some (fl, x.2)
section
variable {X : Cx} {a0 : Addr} {fr : Bool} {st : Stmt} {rest : List Stmt} {e : Expr} {f : Fn} {g h : Fs} {pos : Pos}
theorem sb_nil : SB X a0 fr [] skipS := ⟨PSsimp pss_nil fun Z σ H ⟨F, env, R, fl, env', q, k⟩ => by cases q; exact k σ F H Stp.refl R⟩
theorem sb_cons (h1 : SS X a0 fr st g) (h2 : SB X a0 fr rest h) : SB X a0 fr (st :: rest) (seqS g h) := by
  refine ⟨PSsimp (pss_cons h1.run h2.run) fun Z σ H ⟨F, env, R, fl, env', q, k⟩ => ?_⟩
  obtain ⟨⟨fl1, env1⟩, q1, q⟩ := Option.bind_eq_some_iff.mp q
  refine ⟨F, env, R, fl1, env1, q1, ?_⟩
  cases fl1 with
  | nx => exact fun σ1 F1 H1 S1 R1 => ⟨F1, env1, R1, fl, env', q, k.step S1⟩
  | bk => cases q; exact k
  | ct => cases q; exact k
  | rt d => cases q; exact k
theorem sb_one (h1 : SS X a0 fr st g) : SB X a0 fr [st] g := ⟨pss_one h1.run⟩
theorem ss_pass : SS X a0 fr (.Pass pos) skipS := ⟨PSimp ps_pass fun Z σ H ⟨F, env, R, fl, env', q, k⟩ => by cases q; exact k σ F H Stp.refl R⟩
theorem ss_break : SS X a0 fr (.Break pos) (fun env => some (.bk, env)) := ⟨PSimp ps_break fun Z σ H ⟨F, env, R, fl, env', q, k⟩ => by cases q; exact k σ F H Stp.refl R⟩
theorem ss_cont : SS X a0 fr (.Continue pos) (fun env => some (.ct, env)) := ⟨PSimp ps_continue fun Z σ H ⟨F, env, R, fl, env', q, k⟩ => by cases q; exact k σ F H Stp.refl R⟩
/-- a statement that is never come to -/
theorem ss_never : SS X a0 fr st (fun _ => none) := ⟨PSimp ps_never fun Z σ H ⟨F, env, R, fl, env', q, k⟩ => nomatch q⟩
def exprS (f : Fn) : Fs := fun env => (f env).map fun x => (.nx, x.2)
theorem ss_expr (he : SE X a0 e f) (hs : swapsWith e none pos.line X.env = pure false := by rfl) : SS X a0 fr (.Expr e pos) (exprS f) := by
  refine ⟨PSimp (ps_expr he.run hs) fun Z σ H ⟨F, env, R, fl, env', q, k⟩ => ?_⟩
  obtain ⟨⟨d, env1⟩, q1, q⟩ := Option.map_eq_some_iff.mp q
  cases q
  exact ⟨F, env, R, d, env1, q1, fun v F' H' S R' _ => k σ F' H' S R'⟩
def retS (f : Fn) : Fs := fun env => (f env).map fun x => (.rt x.1, x.2)
theorem ss_ret (he : SE X a0 e f) : SS X a0 false (.Return (some e) pos) (retS f) := by
  refine ⟨PSimp (ps_ret he.run) fun Z σ H ⟨F, env, R, fl, env', q, k⟩ => ?_⟩
  obtain ⟨⟨d, env1⟩, q1, q⟩ := Option.map_eq_some_iff.mp q
  cases q
  exact ⟨F, env, R, d, env1, q1, fun v F' H' S R' z => k v σ F' H' S R' z⟩
/-- return of a new object, owned by nobody -/
theorem ss_retO (he : SO X a0 e f) : SS X a0 true (.Return (some e) pos) (retS f) := by
  refine ⟨PSimp (ps_ret he.run) fun Z σ H ⟨F, env, R, fl, env', q, k⟩ => ?_⟩
  obtain ⟨⟨d, env1⟩, q1, q⟩ := Option.map_eq_some_iff.mp q
  cases q
  exact ⟨F, env, R, d, env1, q1, fun p F' H' S R' hp nf no b => k _ σ F' H' S R' ⟨p, rfl, nf, .inr hp, no, b⟩⟩
def mvf (i : Nat) : Fn := fun env => match env[i]? with
  | some (.ow d) => some (d, env.set i .un)
  | _ => none
theorem owAt_un {env : En} {i j : Nat} (h : OwAt (env.set i .un) j) : j ≠ i ∧ OwAt env j := by
  obtain ⟨s, e, w⟩ := h
  by_cases hj : i = j
  · subst hj
    by_cases hl : i < env.length
    · rw [List.getElem?_set_self hl] at e
      cases e; cases w
    · rw [List.getElem?_eq_none (by simpa using hl)] at e; cases e
  · rw [List.getElem?_set_ne hj] at e
    exact ⟨fun z => hj z.symm, s, e, w⟩
theorem Rel.drop {K a0 F H σ env} (R : Rel K a0 F H σ env) (i : Nat) : Rel K a0 F H σ (env.set i .un) := by
  have key : ∀ (j : Nat) (s : Sl), s ≠ .un → (env.set i .un)[j]? = some s → env[j]? = some s := fun j s hs e => by
    by_cases hj : i = j
    · subst hj
      by_cases hl : i < env.length
      · rw [List.getElem?_set_self hl] at e; cases e; exact absurd rfl hs
      · rw [List.getElem?_eq_none (by simpa using hl)] at e; cases e
    · rwa [List.getElem?_set_ne hj] at e
  exact ⟨by simpa using R.len, R.fd, fun j d e => R.fz j d (key j _ (fun z => nomatch z) e), fun j d e => R.ow j d (key j _ (fun z => nomatch z) e), fun j d e => R.mp j d (key j _ (fun z => nomatch z) e), fun j k a h w w' => R.ap j k a h (owAt_un w).2 (owAt_un w').2⟩
theorem Stp.drop {F H σ env} (i : Nat) : Stp F H σ env F H σ (env.set i .un) := ⟨fun _ h => h, fun _ h => .inl h, fun _ _ h _ => h, fun _ h => h, fun a ⟨j, w, q⟩ => .inl ⟨j, (owAt_un w).2, q⟩⟩
/-- return of a name that owns a new object -/
theorem ss_retN {i : Nat} {x : Str} {np : Pos} (hN : X.N[i]? = some x) (hv : Vis X.env.scope x) (hd : (x == ("__debug__" : Str)) = false := by decide) (hcd : (x == ("__classdict__" : Str)) = false := by decide) : SS X a0 true (.Return (some (.Name x np)) pos) (retS (mvf i)) := by
  refine ⟨PSimp (ps_ret (pe_var hN hv hd hcd)) fun Z σ H ⟨F, env, R, fl, env', q, k⟩ => ?_⟩
  obtain ⟨⟨d, env1⟩, q1, q⟩ := Option.map_eq_some_iff.mp q
  cases q
  unfold mvf at q1
  cases e : env[i]? with
  | none => rw [e] at q1; cases q1
  | some s =>
    rw [e] at q1
    cases s with
    | un => cases q1
    | mp d => cases q1
    | fz d => cases q1
    | ow d' =>
      cases q1
      obtain ⟨a, h1, h2, h3⟩ := R.ow i _ e
      have oi : OwAt env i := ⟨_, e, rfl⟩
      exact ⟨_, h1, k _ σ F H (Stp.drop i) (R.drop i) ⟨a, rfl, h2, .inl ⟨i, oi, h1⟩, fun ⟨j, w, q⟩ => R.ap j i a (owAt_un w).1 (owAt_un w).2 oi q h1, h3⟩⟩
theorem ss_ret0 : SS X a0 false (.Return none pos) (fun env => some (.rt .none, env)) := ⟨PSimp ps_retN fun Z σ H ⟨F, env, R, fl, env', q, k⟩ => by cases q; exact k .non σ F H Stp.refl R .non⟩
def ifS (c : Fb) (f g : Fs) : Fs := fun env => (c env).bind fun x => if x.1 = true then f x.2 else g x.2
theorem ss_if {c : Expr} {a b : List Stmt} {fb : Fb} (hc : ST X a0 c fb) (ha : SB X a0 fr a g) (hb : SB X a0 fr b h) : SS X a0 fr (.If c a b pos) (ifS fb g h) := by
  refine ⟨PSimp (ps_if hc.run ha.run hb.run) fun Z σ H ⟨F, env, R, fl, env', q, k⟩ => ?_⟩
  obtain ⟨⟨b1, env1⟩, q1, q⟩ := Option.bind_eq_some_iff.mp q
  refine ⟨F, env, R, b1, env1, q1, fun F1 H1 S1 R1 => ?_⟩
  cases b1 with
  | true =>
    rw [if_pos rfl] at q ⊢
    exact ⟨F1, env1, R1, fl, env', q, k.step S1⟩
  | false =>
    rw [if_neg Bool.false_ne_true] at q ⊢
    exact ⟨F1, env1, R1, fl, env', q, k.step S1⟩
end

/-! ### stores -/
/-- a store to a name: the mutable parameter's is none of them -/
def put (env : En) (i : Nat) (s : Sl) : Option En := match env[i]? with
  | some (.mp _) => none
  | some _ => some (env.set i s)
  | none => none
theorem put_some {env env' : En} {i : Nat} {s : Sl} (h : put env i s = some env') : env' = env.set i s ∧ i < env.length ∧ ∀ d, env[i]? ≠ some (.mp d) := by
  unfold put at h
  cases e : env[i]? with
  | none => rw [e] at h; cases h
  | some t =>
    rw [e] at h
    have hl := (List.getElem?_eq_some_iff.mp e).1
    cases t with
    | mp d => cases h
    | un => cases h; exact ⟨rfl, hl, fun d z => nomatch z⟩
    | fz d => cases h; exact ⟨rfl, hl, fun d z => nomatch z⟩
    | ow d => cases h; exact ⟨rfl, hl, fun d z => nomatch z⟩
/-- what a slot holds -/
def SlV (K : PySem.W.Frag) (F : Addr → Prop) (H : Hp) (σ : St) (env : En) (v : V) : Sl → Prop
  | .fz d => Fz K F H v d
  | .ow d => ∃ p, v = .ref p ∧ ¬ F p ∧ ¬ Owned σ env p ∧ Bd K F H p d
  | _ => False
theorem Rel.put {K a0 F H σ env env' i s v} (R : Rel K a0 F H σ env) (h : put env i s = some env') (z : SlV K F H σ env v s) : Rel K a0 F H (σ.set i (some v)) env' ∧ (∀ a, Owned (σ.set i (some v)) env' a → Owned σ env a ∨ (v = .ref a ∧ ∃ d, s = .ow d)) := by
  obtain ⟨rfl, hl, hm⟩ := put_some h
  have hσ : i < σ.length := by rw [← R.len]; exact hl
  have ow1 : ∀ j a, OwAt (env.set i s) j → (σ.set i (some v))[j]? = some (some (.ref a)) → (j ≠ i ∧ OwAt env j ∧ σ[j]? = some (some (.ref a))) ∨ (j = i ∧ v = .ref a ∧ ∃ d, s = .ow d) := fun j a ⟨t, e, w⟩ q => by
    by_cases hj : i = j
    · subst hj
      rw [List.getElem?_set_self hl] at e
      rw [List.getElem?_set_self hσ] at q
      cases e
      have q' : v = .ref a := Option.some.inj (Option.some.inj q)
      cases s with
      | un => cases w
      | fz d => cases w
      | mp d => exact z.elim
      | ow d => exact .inr ⟨rfl, q', d, rfl⟩
    · rw [List.getElem?_set_ne hj] at e q
      exact .inl ⟨fun z => hj z.symm, ⟨t, e, w⟩, q⟩
  refine ⟨⟨by simpa using R.len, R.fd, fun j d e => ?_, fun j d e => ?_, fun j d e => ?_, fun j k a hjk w w' q q' => ?_⟩, fun a ⟨j, w, q⟩ => ?_⟩
  · by_cases hj : i = j
    · subst hj
      rw [List.getElem?_set_self hl] at e
      cases e
      exact ⟨v, List.getElem?_set_self hσ, z⟩
    · rw [List.getElem?_set_ne hj] at e ⊢
      exact R.fz j d e
  · by_cases hj : i = j
    · subst hj
      rw [List.getElem?_set_self hl] at e
      cases e
      obtain ⟨p, rfl, h2, h3, h4⟩ := z
      exact ⟨p, List.getElem?_set_self hσ, h2, h4⟩
    · rw [List.getElem?_set_ne hj] at e ⊢
      exact R.ow j d e
  · by_cases hj : i = j
    · subst hj
      rw [List.getElem?_set_self hl] at e
      cases e
      exact z.elim
    · rw [List.getElem?_set_ne hj] at e ⊢
      exact R.mp j d e
  · rcases ow1 j a w q with ⟨n1, w1, q1⟩ | ⟨rfl, hv, d, rfl⟩
    · rcases ow1 k a w' q' with ⟨n2, w2, q2⟩ | ⟨rfl, hv, d, rfl⟩
      · exact R.ap j k a hjk w1 w2 q1 q2
      · obtain ⟨p, hp, h2, h3, h4⟩ := z
        rw [hv] at hp; cases hp
        exact h3 ⟨j, w1, q1⟩
    · rcases ow1 k a w' q' with ⟨n2, w2, q2⟩ | ⟨rfl, _, _, _⟩
      · obtain ⟨p, hp, h2, h3, h4⟩ := z
        rw [hv] at hp; cases hp
        exact h3 ⟨k, w2, q2⟩
      · exact hjk rfl
  · rcases ow1 j a w q with ⟨_, w1, q1⟩ | ⟨_, hv, hd⟩
    · exact .inl ⟨j, w1, q1⟩
    · exact .inr ⟨hv, hd⟩
/-- a step that ends in a store -/
theorem Stp.put {K a0 F H σ env F1 H1 env1 env' i s v} (S : Stp F H σ env F1 H1 σ env1) (R : Rel K a0 F1 H1 σ env1) (h : put env1 i s = some env') (z : SlV K F1 H1 σ env1 v s) (hn : ∀ d a, s = .ow d → v = .ref a → H a = none) : Stp F H σ env F1 H1 (σ.set i (some v)) env' :=
  ⟨S.sub, S.new, S.keep, S.dom, fun a w => by
    rcases (R.put h z).2 a w with w | ⟨w, d, e⟩
    · exact S.own a w
    · exact .inr (hn d a e w)⟩
def setS (i : Nat) (f : Fn) : Fs := fun env => (f env).bind fun x => (put x.2 i (.fz x.1)).map fun e => (.nx, e)
def setO (i : Nat) (f : Fn) : Fs := fun env => (f env).bind fun x => (put x.2 i (.ow x.1)).map fun e => (.nx, e)
section
variable {X : Cx} {a0 : Addr} {fr : Bool} {e : Expr} {f : Fn} {pos pos' : Pos} {i : Nat} {x : Str}
theorem setS_run {Z : Ends} {σ : St} {H : Hp} (h : tS X.K a0 fr (setS i f) Z σ H) : tAsg (tE X.K a0 f) (gName i) Z σ H := by
  obtain ⟨F, env, R, fl, env', q, k⟩ := h
  obtain ⟨⟨d, env1⟩, q1, q⟩ := Option.bind_eq_some_iff.mp q
  obtain ⟨env2, q2, q⟩ := Option.map_eq_some_iff.mp q
  cases q
  exact ⟨F, env, R, d, env1, q1, fun v F' H' S R' z => k _ F' H' (S.put R' q2 z fun d a e _ => nomatch e) (R'.put q2 z).1⟩
theorem setO_run {Z : Ends} {σ : St} {H : Hp} (h : tS X.K a0 fr (setO i f) Z σ H) : tAsg (tO X.K a0 f) (gName i) Z σ H := by
  obtain ⟨F, env, R, fl, env', q, k⟩ := h
  obtain ⟨⟨d, env1⟩, q1, q⟩ := Option.bind_eq_some_iff.mp q
  obtain ⟨env2, q2, q⟩ := Option.map_eq_some_iff.mp q
  cases q
  refine ⟨F, env, R, d, env1, q1, fun p F' H' S R' hp nf no b => ?_⟩
  have z : SlV X.K F' H' σ env1 (.ref p) (.ow d) := ⟨p, rfl, nf, no, b⟩
  exact k _ F' H' (S.put R' q2 z fun d a _ e => by cases e; exact hp) (R'.put q2 z).1
theorem ss_set (hN : X.N.Nodup) (hi : X.N[i]? = some x) (hx : Loc X.env.scope x) (he : SE X a0 e f) (hs : swapsWith e (some (.Name x pos')) pos.line X.env = pure false := by rfl) (hf : X.fn x = true ∨ X.env.scope.names.lookup x = some .local := by first | exact .inl rfl | exact .inr rfl | assumption) :
    SS X a0 fr (.Assign [.Name x pos'] e pos) (setS i f) := ⟨PSimp (ps_set hN hi hx he.run hs hf) fun Z σ H h => setS_run h⟩
theorem ss_setO (hN : X.N.Nodup) (hi : X.N[i]? = some x) (hx : Loc X.env.scope x) (he : SO X a0 e f) (hs : swapsWith e (some (.Name x pos')) pos.line X.env = pure false := by rfl) (hf : X.fn x = true ∨ X.env.scope.names.lookup x = some .local := by first | exact .inl rfl | exact .inr rfl | assumption) :
    SS X a0 fr (.Assign [.Name x pos'] e pos) (setO i f) := ⟨PSimp (ps_set hN hi hx he.run hs hf) fun Z σ H h => setO_run h⟩
end

/-! ### targets -/
abbrev Fg := D → En → Option En
/-- slots but those of ts as they were -/
def Only (ts : List Nat) (σ σ' : St) : Prop := σ'.length = σ.length ∧ ∀ j, j ∉ ts → σ'[j]? = σ[j]?
def tGd (K : PySem.W.Frag) (a0 : Addr) (ts : List Nat) (g : Fg) : TG := fun v σ H Q => ∃ F env, Rel K a0 F H σ env ∧ ∃ d env', Fz K F H v d ∧ g d env = some env' ∧ ∀ σ' F' H', Stp F H σ env F' H' σ' env' → Rel K a0 F' H' σ' env' → Only ts σ σ' → Q σ' H'
structure SG (X : Cx) (a0 : Addr) (ts : List Nat) (e : Expr) (g : Fg) : Prop where
  run : PG X e (tGd X.K a0 ts g)
def tGds (K : PySem.W.Frag) (a0 : Addr) (ts : List Nat) (g : List D → En → Option En) : TGs := fun vs σ H Q => ∃ F env, Rel K a0 F H σ env ∧ ∃ ds env', FzAll K F H vs ds ∧ g ds env = some env' ∧ ∀ σ' F' H', Stp F H σ env F' H' σ' env' → Rel K a0 F' H' σ' env' → Only ts σ σ' → Q σ' H'
structure SGs (X : Cx) (a0 : Addr) (n : Nat) (ts : List Nat) (es : List Expr) (g : List D → En → Option En) : Prop where
  run : PGs X es (tGds X.K a0 ts g)
theorem PGimp {X : Cx} {e : Expr} {t t' : TG} (h : PG X e t) (i : ∀ v σ H Q, t' v σ H Q → t v σ H Q) : PG X e t' := ⟨fun pins s σ H v u Q I r q => h.run pins s σ H v u Q I r (i _ _ _ _ q)⟩
theorem PGsimp {X : Cx} {e : List Expr} {t t' : TGs} (h : PGs X e t) (i : ∀ v σ H Q, t' v σ H Q → t v σ H Q) : PGs X e t' := ⟨fun pins s σ H v u Q I r q => h.run pins s σ H v u Q I r (i _ _ _ _ q)⟩
theorem Only.refl {σ : St} : Only [] σ σ := ⟨rfl, fun _ _ => rfl⟩
theorem Only.app {ts us : List Nat} {σ σ1 σ2 : St} (a : Only ts σ σ1) (b : Only us σ1 σ2) : Only (ts ++ us) σ σ2 :=
  ⟨b.1.trans a.1, fun j h => (b.2 j fun z => h (List.mem_append_right _ z)).trans (a.2 j fun z => h (List.mem_append_left _ z))⟩
theorem Only.set {σ : St} {i : Nat} {v : Option V} : Only [i] σ (σ.set i v) := ⟨by simp, fun j h => List.getElem?_set_ne (fun z => h (by simp [z]))⟩
section
variable {X : Cx} {a0 : Addr} {fr : Bool} {e : Expr} {es : List Expr} {f : Fn} {g : Fg} {gs : List D → En → Option En} {pos pos' : Pos} {i : Nat} {x : Str} {ts us : List Nat}
def nameG (i : Nat) : Fg := fun d env => put env i (.fz d)
theorem sg_name (hN : X.N.Nodup) (hi : X.N[i]? = some x) (hx : Loc X.env.scope x) (hf : X.fn x = true ∨ X.env.scope.names.lookup x = some .local := by first | exact .inl rfl | exact .inr rfl | assumption) : SG X a0 [i] (.Name x pos) (nameG i) :=
  ⟨PGimp (pg_name hN hi hx hf) fun v σ H Q ⟨F, env, R, d, env', z, q, k⟩ => k _ F H (Stp.refl.put R q z fun d a e _ => nomatch e) (R.put q z).1 Only.set⟩
def nilG : List D → En → Option En := fun ds env => match ds with
  | [] => some env
  | _ => none
def consG (g : Fg) (gs : List D → En → Option En) : List D → En → Option En := fun ds env => match ds with
  | d :: ds => (g d env).bind fun e => gs ds e
  | [] => none
theorem sgs_nil : SGs X a0 0 [] [] nilG := ⟨PGsimp pgs_nil fun vs σ H Q ⟨F, env, R, ds, env', z, q, k⟩ => by
  cases z with
  | nil => cases q; exact ⟨rfl, k σ F H Stp.refl R Only.refl⟩
  | cons _ _ => exact nomatch q⟩
theorem sgs_cons {n : Nat} (h1 : SG X a0 ts e g) (h2 : SGs X a0 n us es gs) (hs : (assignEach (e :: es) X.env).map (·.2) = assign e X.env :: (assignEach es X.env).map (·.2) := by rfl) : SGs X a0 (n + 1) (ts ++ us) (e :: es) (consG g gs) := by
  refine ⟨PGsimp (pgs_cons h1.run h2.run hs) fun vs σ H Q ⟨F, env, R, ds, env', z, q, k⟩ => ?_⟩
  cases z with
  | nil => exact nomatch q
  | cons z1 z2 =>
    obtain ⟨env1, q1, q2⟩ := Option.bind_eq_some_iff.mp q
    refine ⟨_, _, rfl, F, env, R, _, env1, z1, q1, fun σ1 F1 H1 S1 R1 o1 => ?_⟩
    exact ⟨F1, env1, R1, _, env', S1.fzAll R z2, q2, fun σ2 F2 H2 S2 R2 o2 => k σ2 F2 H2 (S1.trans S2) R2 (o1.app o2)⟩
def tupG (n : Nat) (gs : List D → En → Option En) : Fg := fun d env => match d with
  | .tuple ds => if ds.length = n then gs ds env else none
  | _ => none
theorem sg_tup {n k : Nat} (hc : X.calm = true) (h : SGs X a0 n ts es gs) (hn : (assignEach es X.env).length = n := by rfl) (hst : (assignEach es X.env).findIdx? (·.1) = none := by rfl) : SG X a0 ts (.Tuple es k pos) (tupG n gs) := by
  refine ⟨PGimp (pg_tup hc h.run hn hst) fun v σ H Q ⟨F, env, R, d, env', z, q, k⟩ => ?_⟩
  match d, z, q with
  | .tuple ds, z, q =>
    by_cases hl : ds.length = n
    · unfold tupG at q
      simp only [hl, if_true] at q
      cases z with
      | tup h1 h2 => exact ⟨_, _, rfl, h1, by rw [h2.length]; exact hl, F, env, R, ds, env', h2, q, k⟩
    · unfold tupG at q
      simp only [hl, if_false] at q
      cases q
  | .none, _, q => exact nomatch q
  | .bool _, _, q => exact nomatch q
  | .int _, _, q => exact nomatch q
  | .str _, _, q => exact nomatch q
  | .list _, _, q => exact nomatch q
  | .dict _, _, q => exact nomatch q
/-- target = e -/
def asgS (f : Fn) (g : Fg) : Fs := fun env => (f env).bind fun x => (g x.1 x.2).map fun e => (.nx, e)
theorem ss_asg {tg : Expr} (he : SE X a0 e f) (hg : SG X a0 ts tg g) (hs : swapsWithSole [tg] e pos.line X.env = pure false := by rfl) (hw : swappedStores [tg] e X.env = pure none := by rfl)
    (h1 : (assignEach [tg] X.env).map (·.2) = [assign tg X.env] := by rfl) : SS X a0 fr (.Assign [tg] e pos) (asgS f g) := by
  refine ⟨PSimp (ps_asg he.run hg.run hs hw h1) fun Z σ H ⟨F, env, R, fl, env', q, k⟩ => ?_⟩
  obtain ⟨⟨d, env1⟩, q1, q⟩ := Option.bind_eq_some_iff.mp q
  obtain ⟨env2, q2, q⟩ := Option.map_eq_some_iff.mp q
  cases q
  exact ⟨F, env, R, d, env1, q1, fun v F1 H1 S1 R1 z => ⟨F1, env1, R1, d, _, z, q2, fun σ2 F2 H2 S2 R2 _ => k σ2 F2 H2 (S1.trans S2) R2⟩⟩
end

/-! ### walks -/
/-- what a walk yields, whatever happens to what is not frozen -/
def Walk (K : PySem.W.Frag) (J : It) (ds : List D) (F1 : Addr → Prop) (H1 : Hp) : Prop :=
  ∀ (F' : Addr → Prop) (H' : Hp) (i : Nat), (∀ a, F1 a → F' a) → (∀ a o, H1 a = some o → (F1 a ∨ ¬ Mut (some o)) → H' a = some o) → (∀ a, F' a → H' a ≠ none) →
    (∀ d, ds[i]? = some d → J.go i H' ∧ ∀ x H'', J.yld i H' x H'' → ∃ F'', Grow F' H' F'' H'' ∧ Fz K F'' H'' x d) ∧ (i = ds.length → J.stop i H')
abbrev Fi := En → Option (List D × En)
def tI (K : PySem.W.Frag) (a0 : Addr) (f : Fi) : TI := fun σ H R => ∃ F env, Rel K a0 F H σ env ∧ ∃ ds env', f env = some (ds, env') ∧ ∀ J F1 H1, Stp F H σ env F1 H1 σ env' → Rel K a0 F1 H1 σ env' → Walk K J ds F1 H1 → R J H1
structure SI (X : Cx) (a0 : Addr) (tg e : Expr) (f : Fi) : Prop where
  run : PI X tg e (tI X.K a0 f)
theorem PIimp {X : Cx} {tg e : Expr} {t t' : TI} (h : PI X tg e t) (i : ∀ σ H Q, t' σ H Q → t σ H Q) : PI X tg e t' := ⟨fun pins s σ H R I q => h.run pins s σ H R I (i _ _ _ q)⟩

def forL (g : Fg) (body : Fs) : List D → Fs
  | [], env => some (.nx, env)
  | d :: ds, env => (g d env).bind fun e1 => (body e1).bind fun x => match x.1 with
    | .nx => forL g body ds x.2
    | .ct => forL g body ds x.2
    | .bk => some (.nx, x.2)
    | .rt v => some (.rt v, x.2)
def forS (it : Fi) (g : Fg) (body : Fs) : Fs := fun env => (it env).bind fun x => forL g body x.1 x.2
section
variable {X : Cx} {a0 : Addr} {fr : Bool} {it : Fi} {g : Fg} {body : Fs} {ts : List Nat} {pos : Pos}
theorem ss_for {tg iter : Expr} {sts : List Stmt} (hp : PassesOwn (model X.prog X.w) X.A X.env X.xe) (hc : X.calm = true) (hi : SI X a0 tg iter it) (hg : SG X a0 ts tg g) (hb : SB X a0 fr sts body)
    (hs : ∀ x, foldedSetIterable iter X.env x = pure x := by intro _; rfl) : SS X a0 fr (.For tg iter sts [] pos) (forS it g body) := by
  refine ⟨PSimp (ps_for hp hc hi.run hg.run hb.run hs) fun Z σ H ⟨F, env, R, fl, env', q, k⟩ => ?_⟩
  obtain ⟨⟨ds, env1⟩, q1, q⟩ := Option.bind_eq_some_iff.mp q
  refine ⟨F, env, R, ds, env1, q1, fun J F1 H1 S1 R1 W => ?_⟩
  have k1 := k.step S1
  refine ⟨fun i m σ' H' => i ≤ ds.length ∧ m = ds.length - i ∧ ∃ F' envi, Rel X.K a0 F' H' σ' envi ∧ (∀ a, F1 a → F' a) ∧ (∀ a o, H1 a = some o → (F1 a ∨ ¬ Mut (some o)) → H' a = some o) ∧
    forL g body (ds.drop i) envi = some (fl, env') ∧ FlK X.K a0 fr F' H' σ' envi Z fl env', ⟨_, Nat.zero_le _, rfl, F1, env1, R1, fun _ h => h, fun _ _ h _ => h, by simpa using q, k1⟩, ?_⟩
  rintro i m σ3 H3 ⟨hi, rfl, F3, env3, R3, sub3, kp3, q3, k3⟩
  by_cases hlt : i < ds.length
  · have hd : ds.drop i = ds[i] :: ds.drop (i + 1) := List.drop_eq_getElem_cons hlt
    rw [hd] at q3
    obtain ⟨env4, q4, q3⟩ := Option.bind_eq_some_iff.mp q3
    obtain ⟨⟨fl5, env5⟩, q5, q3⟩ := Option.bind_eq_some_iff.mp q3
    obtain ⟨go, yld⟩ := (W F3 H3 i sub3 kp3 R3.fd).1 ds[i] (List.getElem?_eq_getElem hlt)
    refine .inr ⟨go, fun σ' H' => ∃ m', m' < ds.length - i ∧ (i + 1 ≤ ds.length ∧ m' = ds.length - (i + 1) ∧ ∃ F' envi, Rel X.K a0 F' H' σ' envi ∧ (∀ a, F1 a → F' a) ∧ (∀ a o, H1 a = some o → (F1 a ∨ ¬ Mut (some o)) → H' a = some o) ∧
      forL g body (ds.drop (i + 1)) envi = some (fl, env') ∧ FlK X.K a0 fr F' H' σ' envi Z fl env'), fun σ' H' h => h, fun x H' y => ?_⟩
    obtain ⟨F4, G, fx⟩ := yld x H' y
    refine ⟨F4, env3, G.rel R3, ds[i], env4, fx, q4, fun σ5 F5 H5 S5 R5 _ => ?_⟩
    have S35 := G.stp.trans S5
    have k5 := k3.step S35
    have again : ∀ σ6 F6 H6, Stp F5 H5 σ5 env4 F6 H6 σ6 env5 → Rel X.K a0 F6 H6 σ6 env5 → forL g body (ds.drop (i + 1)) env5 = some (fl, env') → ∃ m', m' < ds.length - i ∧ (i + 1 ≤ ds.length ∧ m' = ds.length - (i + 1) ∧ ∃ F' envi, Rel X.K a0 F' H6 σ6 envi ∧ (∀ a, F1 a → F' a) ∧ (∀ a o, H1 a = some o → (F1 a ∨ ¬ Mut (some o)) → H6 a = some o) ∧
      forL g body (ds.drop (i + 1)) envi = some (fl, env') ∧ FlK X.K a0 fr F' H6 σ6 envi Z fl env') := fun σ6 F6 H6 S6 R6 q6 => by
      have S36 := S35.trans S6
      exact ⟨_, by omega, hlt, rfl, F6, env5, R6, fun a h => S36.sub a (sub3 a h), fun a o h1 h2 => S36.hk R3 a o (kp3 a o h1 h2) (h2.elim (fun z => .inl (sub3 a z)) .inr), q6, k5.step S6⟩
    refine ⟨F5, env4, R5, fl5, env5, q5, ?_⟩
    cases fl5 with
    | nx => exact fun σ6 F6 H6 S6 R6 => again σ6 F6 H6 S6 R6 q3
    | ct => exact fun σ6 F6 H6 S6 R6 => again σ6 F6 H6 S6 R6 q3
    | bk => cases q3; exact k5
    | rt d => cases q3; exact k5
  · have e : i = ds.length := by omega
    refine .inl ⟨(W F3 H3 i sub3 kp3 R3.fd).2 e, ?_⟩
    rw [List.drop_eq_nil_of_le (by omega)] at q3
    cases q3
    exact k3 σ3 F3 H3 Stp.refl R3
end

/-! ### while -/
def whL (c : Fb) (body : Fs) : Nat → Fs
  | 0, _ => none
  | n + 1, env => (c env).bind fun x => if x.1 = true then (body x.2).bind fun y => match y.1 with
      | .nx => whL c body n y.2
      | .ct => whL c body n y.2
      | .bk => some (.nx, y.2)
      | .rt v => some (.rt v, y.2)
    else some (.nx, x.2)
/-- a while of at most so many turns -/
def fuel : Nat := 1000000000
def whS (c : Fb) (body : Fs) : Fs := fun env => whL c body fuel env
section
variable {X : Cx} {a0 : Addr} {fr : Bool} {c : Expr} {fb : Fb} {body : Fs} {pos : Pos}
theorem ss_while {sts : List Stmt} (hp : PassesOwn (model X.prog X.w) X.A X.env X.xe) (hc : ST X a0 c fb) (hb : SB X a0 fr sts body) : SS X a0 fr (.While c sts [] pos) (whS fb body) := by
  refine ⟨PSimp (ps_while hp hc.run hb.run) fun Z σ H ⟨F, env, R, fl, env', q, k⟩ => ?_⟩
  refine ⟨fun m σ' H' => ∃ F' envi, Rel X.K a0 F' H' σ' envi ∧ whL fb body m envi = some (fl, env') ∧ FlK X.K a0 fr F' H' σ' envi Z fl env', ⟨fuel, F, env, R, q, k⟩, ?_⟩
  rintro m σ3 H3 ⟨F3, env3, R3, q3, k3⟩
  cases m with
  | zero => exact nomatch q3
  | succ m =>
    obtain ⟨⟨b, env4⟩, q4, q3⟩ := Option.bind_eq_some_iff.mp q3
    refine ⟨F3, env3, R3, b, env4, q4, fun F4 H4 S4 R4 => ?_⟩
    have k4 := k3.step S4
    cases b with
    | true =>
      rw [if_pos rfl] at q3
      refine iteT ?_
      obtain ⟨⟨fl5, env5⟩, q5, q3⟩ := Option.bind_eq_some_iff.mp q3
      refine ⟨fun σ' H' => ∃ F' envi, Rel X.K a0 F' H' σ' envi ∧ whL fb body m envi = some (fl, env') ∧ FlK X.K a0 fr F' H' σ' envi Z fl env', fun σ' H' h => ⟨m, Nat.lt_succ_self _, h⟩, F4, env4, R4, fl5, env5, q5, ?_⟩
      cases fl5 with
      | nx => exact fun σ6 F6 H6 S6 R6 => ⟨F6, env5, R6, q3, k4.step S6⟩
      | ct => exact fun σ6 F6 H6 S6 R6 => ⟨F6, env5, R6, q3, k4.step S6⟩
      | bk => cases q3; exact k4
      | rt d => cases q3; exact k4
    | false =>
      rw [if_neg Bool.false_ne_true] at q3
      refine iteF ?_
      cases q3
      exact k4 σ3 F4 H4 Stp.refl R4
end
end Ew

/-! EwComp: list comprehensions. -/
namespace Ew
open PySem L2

def wipeE (env : En) : List Nat → En
  | [] => env
  | v :: vs => (wipeE env vs).set v .un
def restE (env1 env2 : En) : List Nat → En
  | [] => env2
  | v :: vs => (restE env1 env2 vs).set v ((env1[v]?).getD .un)
def okV (env : En) (vs : List Nat) : Bool := vs.all fun v => match env[v]? with
  | some (.ow _) => false
  | some (.mp _) => false
  | _ => true
def lcL (g : Fg) (t : Fb) (e : Fn) (vs : List Nat) : List D → En → Option (List D × En)
  | [], env => some ([], env)
  | d :: ds, env => (g d env).bind fun e1 => (t e1).bind fun b => if b.1 = true then (e b.2).bind fun x => (lcL g t e vs ds (wipeE x.2 vs)).bind fun y => some (x.1 :: y.1, y.2) else lcL g t e vs ds (wipeE b.2 vs)
def lcF (it : Fi) (g : Fg) (t : Fb) (e : Fn) (vs : List Nat) : Fn := fun env => (it env).bind fun x => if x.1.length ≤ 1000000 ∧ okV x.2 vs = true then (lcL g t e vs x.1 (wipeE x.2 vs)).bind fun y => some (.list y.1, restE x.2 y.2 vs) else none

theorem wipeE_length (env : En) : ∀ vs : List Nat, (wipeE env vs).length = env.length
  | [] => rfl
  | v :: vs => by unfold wipeE; rw [List.length_set, wipeE_length env vs]
theorem restE_length (e1 e2 : En) : ∀ vs : List Nat, (restE e1 e2 vs).length = e2.length
  | [] => rfl
  | v :: vs => by unfold restE; rw [List.length_set, restE_length e1 e2 vs]
theorem wipeE_some {env : En} {i : Nat} {s : Sl} (hs : s ≠ .un) : ∀ {vs : List Nat}, (wipeE env vs)[i]? = some s → env[i]? = some s ∧ i ∉ vs
  | [], h => ⟨h, by simp⟩
  | v :: vs, h => by
    unfold wipeE at h
    by_cases hi : v = i
    · subst hi
      by_cases hv : v < (wipeE env vs).length
      · rw [List.getElem?_set_self hv] at h; cases h; exact absurd rfl hs
      · rw [List.getElem?_eq_none (by simpa using hv)] at h; cases h
    · rw [List.getElem?_set_ne hi] at h
      obtain ⟨h1, h2⟩ := wipeE_some hs h
      exact ⟨h1, by simp only [List.mem_cons, not_or]; exact ⟨fun e => hi e.symm, h2⟩⟩
theorem restE_out {e1 e2 : En} {i : Nat} : ∀ {vs : List Nat}, i ∉ vs → (restE e1 e2 vs)[i]? = e2[i]?
  | [], _ => rfl
  | v :: vs, h => by
    unfold restE
    rw [List.getElem?_set_ne (fun z => h (by simp [z]))]
    exact restE_out fun z => h (List.mem_cons_of_mem _ z)
theorem restE_in {e1 e2 : En} {i : Nat} {s : Sl} (hl : e1.length = e2.length) : ∀ {vs : List Nat}, i ∈ vs → (restE e1 e2 vs)[i]? = some s → e1[i]? = some s
  | v :: vs, hm, h => by
    unfold restE at h
    by_cases hi : v = i
    · subst hi
      by_cases hv : v < (restE e1 e2 vs).length
      · rw [List.getElem?_set_self hv] at h
        rw [restE_length, ← hl] at hv
        rw [List.getElem?_eq_getElem hv] at h ⊢
        exact h
      · rw [List.getElem?_eq_none (by simpa using hv)] at h; cases h
    · rw [List.getElem?_set_ne hi] at h
      exact restE_in hl ((List.mem_cons.mp hm).resolve_left fun z => hi z.symm) h
theorem wipe_in {σ : St} {i : Nat} : ∀ {vs : List Nat}, i ∈ vs → i < σ.length → (wipe σ vs)[i]? = some none
  | v :: vs, hm, hl => by
    unfold wipe
    by_cases hi : v = i
    · subst hi
      exact List.getElem?_set_self (by rw [wipe_length]; exact hl)
    · rw [List.getElem?_set_ne hi]
      exact wipe_in ((List.mem_cons.mp hm).resolve_left fun z => hi z.symm) hl
theorem wipe_only {σ σ2 : St} {ts vs : List Nat} (o : Only ts (wipe σ vs) σ2) (h : ∀ t ∈ ts, t ∈ vs) : wipe σ2 vs = wipe σ vs := by
  refine List.ext_getElem? fun j => ?_
  have hl : σ2.length = σ.length := by rw [o.1, wipe_length]
  by_cases hj : j ∈ vs
  · by_cases hlt : j < σ.length
    · rw [wipe_in hj hlt, wipe_in hj (by rw [hl]; exact hlt)]
    · rw [List.getElem?_eq_none (by rw [wipe_length]; omega), List.getElem?_eq_none (by rw [wipe_length]; omega)]
  · rw [wipe_out hj]
    exact o.2 j fun z => hj (h j z)
section
variable {K : PySem.W.Frag} {a0 : Addr} {F : Addr → Prop} {H : Hp} {σ : St} {env : En}
theorem owned_wipe {vs : List Nat} {a : Addr} (h : Owned (wipe σ vs) (wipeE env vs) a) : Owned σ env a := by
  obtain ⟨i, ⟨s, e, w⟩, q⟩ := h
  exact ⟨i, ⟨s, (wipeE_some (fun z => by subst z; cases w) e).1, w⟩, (wipe_some q).1⟩
theorem Rel.wiped (R : Rel K a0 F H σ env) (vs : List Nat) : Rel K a0 F H (wipe σ vs) (wipeE env vs) := by
  refine ⟨by rw [wipeE_length, wipe_length]; exact R.len, R.fd, fun i d e => ?_, fun i d e => ?_, fun i d e => ?_, fun i j a hij ⟨s, e, w⟩ ⟨s', e', w'⟩ q q' => ?_⟩
  · obtain ⟨e, n⟩ := wipeE_some (s := .fz d) (fun z => nomatch z) e
    obtain ⟨v, h1, h2⟩ := R.fz i d e
    exact ⟨v, by rw [wipe_out n]; exact h1, h2⟩
  · obtain ⟨e, n⟩ := wipeE_some (s := .ow d) (fun z => nomatch z) e
    obtain ⟨v, h1, h2⟩ := R.ow i d e
    exact ⟨v, by rw [wipe_out n]; exact h1, h2⟩
  · obtain ⟨e, n⟩ := wipeE_some (s := .mp d) (fun z => nomatch z) e
    obtain ⟨h1, h2⟩ := R.mp i d e
    exact ⟨by rw [wipe_out n]; exact h1, h2⟩
  · exact R.ap i j a hij ⟨s, (wipeE_some (fun z => by subst z; cases w) e).1, w⟩ ⟨s', (wipeE_some (fun z => by subst z; cases w') e').1, w'⟩ (wipe_some q).1 (wipe_some q').1
theorem Stp.wiped {vs : List Nat} : Stp F H σ env F H (wipe σ vs) (wipeE env vs) := ⟨fun _ h => h, fun _ h => .inl h, fun _ _ h _ => h, fun _ h => h, fun a w => .inl (owned_wipe w)⟩
/-- what nobody knows is written -/
theorem Rel.updE {p : Addr} {o : HO} (R : Rel K a0 F H σ env) (nf : ¬ F p) (no : ¬ Owned σ env p) (hm : Mut (H p)) : Rel K a0 F (upd H p o) σ env := by
  have hk : ∀ a u, H a = some u → (F a ∨ ¬ Mut (some u)) → upd H p o a = some u := fun a u e h => by
    by_cases hp : a = p
    · subst hp
      rcases h with h | h
      · exact absurd h nf
      · rw [e] at hm; exact absurd hm h
    · rw [upd_ne hp]; exact e
  refine ⟨R.len, fun a h => ?_, fun i d e => ?_, fun i d e => ?_, fun i d e => ?_, R.ap⟩
  · by_cases hp : a = p
    · subst hp; exact absurd h nf
    · rw [upd_ne hp]; exact R.fd a h
  · obtain ⟨v, h1, h2⟩ := R.fz i d e
    exact ⟨v, h1, h2.mono (fun _ h => h) hk⟩
  · obtain ⟨a, h1, h2, h3⟩ := R.ow i d e
    exact ⟨a, h1, h2, h3.mono (fun _ h => h) hk (upd_ne fun z => no ⟨i, ⟨_, e, rfl⟩, z ▸ h1⟩)⟩
  · obtain ⟨h1, h2, h3⟩ := R.mp i d e
    exact ⟨h1, h2, h3.mono (fun _ h => h) hk (upd_ne fun z => no ⟨i, ⟨_, e, rfl⟩, z ▸ h1⟩)⟩
theorem Rel.rest {F' : Addr → Prop} {H' : Hp} {env' : En} {vs : List Nat} (R : Rel K a0 F H σ env) (ok : okV env vs = true) (S : Stp F H σ env F' H' (wipe σ vs) env') (R' : Rel K a0 F' H' (wipe σ vs) env') :
    Rel K a0 F' H' σ (restE env env' vs) ∧ Stp F H σ env F' H' σ (restE env env' vs) ∧ ∀ a, Owned σ (restE env env' vs) a → Owned (wipe σ vs) env' a := by
  have hl : env.length = env'.length := by rw [R.len, R'.len, wipe_length]
  have okv : ∀ (i : Nat) (s : Sl), i ∈ vs → env[i]? = some s → s.isOw = false := fun i s hi e => by
    have z := List.all_eq_true.mp ok i hi
    rw [e] at z
    cases s <;> first | rfl | exact nomatch z
  have owat : ∀ i, OwAt (restE env env' vs) i → i ∉ vs ∧ OwAt env' i := fun i ⟨s, e, w⟩ => by
    by_cases hi : i ∈ vs
    · have z := okv i s hi (restE_in hl hi e)
      rw [w] at z; cases z
    · rw [restE_out hi] at e
      exact ⟨hi, s, e, w⟩
  have ow : ∀ a, Owned σ (restE env env' vs) a → Owned (L2.wipe σ vs) env' a := fun a ⟨i, w, q⟩ => by
    obtain ⟨n, w'⟩ := owat i w
    exact ⟨i, w', by rw [wipe_out n]; exact q⟩
  refine ⟨⟨by rw [restE_length, R'.len, wipe_length], R'.fd, fun i d e => ?_, fun i d e => ?_, fun i d e => ?_, fun i j a hij w w' q q' => ?_⟩, ⟨S.sub, S.new, S.keep, S.dom, fun a w => S.own a (ow a w)⟩, ow⟩
  · by_cases hi : i ∈ vs
    · obtain ⟨v, h1, h2⟩ := R.fz i d (restE_in hl hi e)
      exact ⟨v, h1, S.fz R h2⟩
    · rw [restE_out hi] at e
      obtain ⟨v, h1, h2⟩ := R'.fz i d e
      exact ⟨v, by rw [wipe_out hi] at h1; exact h1, h2⟩
  · by_cases hi : i ∈ vs
    · exact nomatch okv i _ hi (restE_in hl hi e)
    · rw [restE_out hi] at e
      obtain ⟨v, h1, h2⟩ := R'.ow i d e
      exact ⟨v, by rw [wipe_out hi] at h1; exact h1, h2⟩
  · by_cases hi : i ∈ vs
    · exact nomatch okv i _ hi (restE_in hl hi e)
    · rw [restE_out hi] at e
      obtain ⟨h1, h2⟩ := R'.mp i d e
      exact ⟨by rw [wipe_out hi] at h1; exact h1, h2⟩
  · obtain ⟨n, u⟩ := owat i w
    obtain ⟨n', u'⟩ := owat j w'
    exact R'.ap i j a hij u u' (by rw [wipe_out n]; exact q) (by rw [wipe_out n']; exact q')
end

theorem lc_run {K : PySem.W.Frag} {a0 : Addr} {it : Fi} {g : Fg} {t : Fb} {e : Fn} {ts vs : List Nat} (hv : ∀ t ∈ ts, t ∈ vs) {σ : St} {H : Hp} {Q : VK} (h : tO K a0 (lcF it g t e vs) σ H Q) :
    tLc (tI K a0 it) (tGd K a0 ts g) (tT K a0 t) (tE K a0 e) vs σ H Q := by
  obtain ⟨F, env, R, d, env', q, k⟩ := h
  obtain ⟨⟨ds, env1⟩, q1, q⟩ := Option.bind_eq_some_iff.mp q
  by_cases hc : ds.length ≤ 1000000 ∧ okV env1 vs = true
  · rw [if_pos hc] at q
    obtain ⟨⟨xs, env2⟩, q2, q⟩ := Option.bind_eq_some_iff.mp q
    cases q
    refine ⟨F, env, R, ds, env1, q1, fun J F1 H1 S1 R1 W Dd hD => ?_⟩
    refine ⟨fun i m Hc => i ≤ ds.length ∧ m = ds.length - i ∧ ∃ Fc envi acc accd ys, Rel K a0 Fc Hc (wipe σ vs) envi ∧ ¬ Fc Dd ∧ ¬ Owned (wipe σ vs) envi Dd ∧ Hc Dd = some (.lst acc) ∧ FzAll K Fc Hc acc accd ∧ acc.length ≤ i ∧
      Stp F1 H1 σ env1 Fc Hc (wipe σ vs) envi ∧ lcL g t e vs (ds.drop i) envi = some (ys, env2) ∧ accd ++ ys = xs, ⟨_, Nat.zero_le _, rfl, F1, wipeE env1 vs, [], [], xs, ?_⟩, ?_⟩
    · have G : Grow F1 H1 F1 (upd H1 Dd (.lst [])) := Grow.new1 hD
      exact ⟨G.rel (R1.wiped vs), fun z => R1.fd Dd z hD, fun w => (R1.owned (owned_wipe w)).2.2 hD, upd_same, .nil, Nat.le_refl _, Stp.wiped.trans G.stp, by simpa using q2, rfl⟩
    rintro i m Hc ⟨hi, rfl, Fc, envi, acc, accd, ys, Rc, nf, no, hDd, hacc, hlen, Sc, qc, exs⟩
    have kp : ∀ a o, H1 a = some o → (F1 a ∨ ¬ Mut (some o)) → Hc a = some o := Sc.hk R1
    by_cases hlt : i < ds.length
    · have hd : ds.drop i = ds[i] :: ds.drop (i + 1) := List.drop_eq_getElem_cons hlt
      rw [hd] at qc
      obtain ⟨env4, q4, qc⟩ := Option.bind_eq_some_iff.mp qc
      obtain ⟨⟨b, env5⟩, q5, qc⟩ := Option.bind_eq_some_iff.mp qc
      obtain ⟨go, yld⟩ := (W Fc Hc i Sc.sub kp Rc.fd).1 ds[i] (List.getElem?_eq_getElem hlt)
      refine .inr ⟨go, fun H' => ∃ m', m' < ds.length - i ∧ (i + 1 ≤ ds.length ∧ m' = ds.length - (i + 1) ∧ ∃ Fc envi acc accd ys, Rel K a0 Fc H' (wipe σ vs) envi ∧ ¬ Fc Dd ∧ ¬ Owned (wipe σ vs) envi Dd ∧ H' Dd = some (.lst acc) ∧ FzAll K Fc H' acc accd ∧ acc.length ≤ i + 1 ∧
        Stp F1 H1 σ env1 Fc H' (wipe σ vs) envi ∧ lcL g t e vs (ds.drop (i + 1)) envi = some (ys, env2) ∧ accd ++ ys = xs), fun H' h => h, fun x H' y => ?_⟩
      obtain ⟨F4, G, fx⟩ := yld x H' y
      refine ⟨F4, envi, G.rel Rc, ds[i], env4, fx, q4, fun σ5 F5 H5 S5 R5 o5 => ⟨wipe_only o5 hv, F5, env4, R5, b, env5, q5, fun F6 H6 S6 R6 => ?_⟩⟩
      have S46 := (G.stp.trans S5).trans S6
      have keyD : ∀ {F7 : Addr → Prop} {H7 : Hp} {σ7 : St} {env7 : En}, Stp Fc Hc (wipe σ vs) envi F7 H7 σ7 env7 → ¬ F7 Dd ∧ ¬ Owned σ7 env7 Dd ∧ H7 Dd = some (.lst acc) := fun {F7 H7 σ7 env7} S => by
        refine ⟨fun z => ?_, fun w => ?_, S.keep _ _ hDd no⟩
        · rcases S.new Dd z with z | z | z
          · exact nf z
          · rw [hDd] at z; cases z
          · exact no z
        · rcases S.own Dd w with w | w
          · exact no w
          · rw [hDd] at w; cases w
      cases b with
      | true =>
        rw [if_pos rfl] at qc
        refine iteT ?_
        obtain ⟨⟨x1, env7⟩, q7, qc⟩ := Option.bind_eq_some_iff.mp qc
        obtain ⟨⟨zs, env8⟩, q8, qc⟩ := Option.bind_eq_some_iff.mp qc
        cases qc
        refine ⟨F6, env5, R6, x1, env7, q7, fun y F7 H7 S7 R7 fy => ?_⟩
        have S47 := S46.trans S7
        obtain ⟨nf7, no7, hD7⟩ := keyD S47
        refine ⟨acc, hD7, by rw [sizeLine_eq]; omega, _, by omega, hlt, rfl, F7, wipeE env7 vs, acc ++ [y], accd ++ [x1], zs, ?_⟩
        have Rw : Rel K a0 F7 H7 (wipe σ vs) (wipeE env7 vs) := by
          have z := R7.wiped vs
          rwa [wipe_only o5 hv] at z
        have now : ¬ Owned (wipe σ vs) (wipeE env7 vs) Dd := fun w => no7 (by
          rw [← wipe_only o5 hv] at w
          exact owned_wipe w)
        have hk : ∀ a u, H7 a = some u → (F7 a ∨ ¬ Mut (some u)) → upd H7 Dd (.lst (acc ++ [y])) a = some u := fun a u e h => by
          by_cases hp : a = Dd
          · subst hp
            rcases h with h | h
            · exact absurd h nf7
            · rw [hD7] at e; cases e; exact absurd trivial h
          · rw [upd_ne hp]; exact e
        refine ⟨Rw.updE nf7 now (by rw [hD7]; trivial), nf7, now, upd_same, ?_, by simp; omega, ?_, q8, by simp [← exs]⟩
        · exact ((S47.fzAll Rc hacc).append (.cons fy .nil)).mono (fun _ h => h) hk
        · have S17 := Sc.trans S47
          refine ⟨S17.sub, S17.new, fun a o e n => ?_, fun a h => ?_, fun a w => S17.own a (by
            rw [← wipe_only o5 hv] at w
            exact owned_wipe w)⟩
          · rw [upd_ne (ne_of_none e hD)]
            exact S17.keep a o e n
          · by_cases hp : a = Dd
            · subst hp; rw [upd_same]; exact fun z => nomatch z
            · rw [upd_ne hp]; exact S17.dom a h
      | false =>
        rw [if_neg Bool.false_ne_true] at qc
        refine iteF ?_
        obtain ⟨nf6, no6, hD6⟩ := keyD S46
        have Rw : Rel K a0 F6 H6 (wipe σ vs) (wipeE env5 vs) := by
          have z := R6.wiped vs
          rwa [wipe_only o5 hv] at z
        have ow : ∀ a, Owned (wipe σ vs) (wipeE env5 vs) a → Owned σ5 env5 a := fun a w => by
          rw [← wipe_only o5 hv] at w
          exact owned_wipe w
        have S16 := Sc.trans S46
        exact ⟨_, by omega, hlt, rfl, F6, wipeE env5 vs, acc, accd, ys, Rw, nf6, fun w => no6 (ow _ w), hD6, S46.fzAll Rc hacc, by omega, ⟨S16.sub, S16.new, S16.keep, S16.dom, fun a w => S16.own a (ow a w)⟩, qc, exs⟩
    · have ei : i = ds.length := by omega
      refine .inl ⟨(W Fc Hc i Sc.sub kp Rc.fd).2 ei, ?_⟩
      rw [List.drop_eq_nil_of_le (by omega)] at qc
      cases qc
      rw [List.append_nil] at exs
      subst exs
      obtain ⟨Rr, Sr, Or⟩ := R1.rest hc.2 Sc Rc
      exact k Dd Fc Hc (S1.trans Sr) Rr (S1.new_of hD) nf (fun w => no (Or _ w)) (.lst hDd hacc)
  · rw [if_neg hc] at q; cases q

structure STs (X : Cx) (a0 : Addr) (ifs : List Expr) (f : Fb) : Prop where
  run : PTs X ifs (tT X.K a0 f)
theorem PTsimp {X : Cx} {e : List Expr} {t t' : TT} (h : PTs X e t) (i : ∀ σ H Q, t' σ H Q → t σ H Q) : PTs X e t' := ⟨fun pins s σ H Q I q => h.run pins s σ H Q I (i _ _ _ q)⟩
def yesT : Fb := fun env => some (true, env)
section
variable {X : Cx} {a0 : Addr} {fr : Bool} {it : Fi} {g : Fg} {t : Fb} {f : Fn} {elt tg iter : Expr} {ifs : List Expr} {scope : Scope} {own : List (Str × Nat)} {pos : Pos} {ts : List Nat}
theorem sts_nil : STs X a0 [] yesT := ⟨PTsimp pts_nil fun σ H Q ⟨F, env, R, b, env', q, k⟩ => by cases q; exact k F H Stp.refl R⟩
theorem sts_one {c : Expr} (h : ST X a0 c t) : STs X a0 [c] t := ⟨pts_one h.run⟩
theorem so_lc (hc : X.calm = true) (hN : X.N.Nodup) (hi : SI X a0 tg iter it) (ok : BlkOk X.N X.env.scope scope own) (hv : ∀ t ∈ ts, t ∈ own.map (·.2))
    (hg : ∀ (s : Shared) (H : Hp) (C : Addr) (cl : List (Str × Addr)) (fp : List Addr), SG (X.blk s H scope (compEnvC scope cl C X.env) fp) a0 ts tg g)
    (ht : ∀ (s : Shared) (H : Hp) (C : Addr) (cl : List (Str × Addr)) (fp : List Addr), STs (X.blk s H scope (compEnvC scope cl C X.env) fp) a0 ifs t)
    (he : ∀ (s : Shared) (H : Hp) (C : Addr) (cl : List (Str × Addr)) (fp : List Addr), SE (X.blk s H scope (compEnvC scope cl C X.env) fp) a0 elt f) (hs : ∀ x, foldedSetIterable iter X.env x = pure x := by intro _; rfl) :
    SO X a0 (.ListComp elt [⟨tg, iter, ifs, 0⟩] scope pos) (lcF it g t f (own.map (·.2))) :=
  ⟨PEimp (pe_lc (te := tE X.K a0 f) (tt := tT X.K a0 t) (g := tGd X.K a0 ts g) hc hN hi.run ok (fun s H C cl fp => (hg s H C cl fp).run) (fun s H C cl fp => (ht s H C cl fp).run) (fun s H C cl fp => (he s H C cl fp).run) hs) fun σ H Q h => lc_run hv h⟩
theorem ss_setLc {i : Nat} {y : Str} {py spos : Pos} (hc : X.calm = true) (hN : X.N.Nodup) (hy : X.N[i]? = some y) (hyl : X.env.scope.names.lookup y = some .local)
    (hsw : swapsWith (.ListComp elt [⟨tg, iter, ifs, 0⟩] scope pos) (some (.Name y py)) spos.line X.env = pure true) (hi : SI X a0 tg iter it) (ok : BlkOk X.N X.env.scope scope own) (hv : ∀ t ∈ ts, t ∈ own.map (·.2))
    (hg : ∀ (s : Shared) (H : Hp) (C : Addr) (cl : List (Str × Addr)) (fp : List Addr), SG (X.blk s H scope (compEnvC scope cl C X.env) fp) a0 ts tg g)
    (ht : ∀ (s : Shared) (H : Hp) (C : Addr) (cl : List (Str × Addr)) (fp : List Addr), STs (X.blk s H scope (compEnvC scope cl C X.env) fp) a0 ifs t)
    (he : ∀ (s : Shared) (H : Hp) (C : Addr) (cl : List (Str × Addr)) (fp : List Addr), SE (X.blk s H scope (compEnvC scope cl C X.env) fp) a0 elt f) (hs : ∀ x, foldedSetIterable iter X.env x = pure x := by intro _; rfl) :
    SS X a0 fr (.Assign [.Name y py] (.ListComp elt [⟨tg, iter, ifs, 0⟩] scope pos) spos) (setO i (lcF it g t f (own.map (·.2)))) := by
  refine ⟨PSimp (ps_setLc (te := tE X.K a0 f) (tt := tT X.K a0 t) (g := tGd X.K a0 ts g) hc hN hy hyl hsw hi.run ok (fun s H C cl fp => (hg s H C cl fp).run) (fun s H C cl fp => (ht s H C cl fp).run) (fun s H C cl fp => (he s H C cl fp).run) hs) fun Z σ H h => ?_⟩
  obtain ⟨F, env, R, d, env', q, k⟩ := setO_run h
  exact lc_run hv ⟨F, env, R, d, env', q, k⟩
end
end Ew

/-! EwGuard: what a def promises where no repr is under way (guards known); its calls; the law's end. -/
namespace Ew
open PySem L2

/-- room, and no repr is under way -/
structure Rm (k : Nat) (A : Around) : Prop where
  r : Room k A
  g : A.guards = some []
theorem Rm.mono {j k : Nat} {A : Around} (h : Rm k A) (l : j ≤ k) : Rm j A := ⟨h.r.mono l, h.g⟩
theorem Rm.deeper {k : Nat} {A : Around} (h : Rm (k + 1) A) (env : Env) : Rm k (A.deeper env) := ⟨h.r.deeper env, by
  first
    | exact h.g
    | (have g := h.g; simpa [Around.deeper] using g)⟩
/-- a def's promise where no repr is under way; no exception leaves it -/
structure FnG (P : Program) (w : World) (K : PySem.W.Frag) (mg : Str → Option Value) (base : Heap) (k : Nat) (f : Addr) (fd : FuncData) (ps : List Str) (sp : Sp) : Prop where
  len : ∀ vs H Q E, sp vs H Q E → vs.length = ps.length
  go : ∀ (A : Around) (out : List Env) (s : Shared) (H : Hp) (ar : Args) (us : List Value) (vs : List V) (Q : VK) (E : XK),
    Rm k A → Env0 P w K mg base A out s H → BindsTo s fd ar (ps.zip us) → Vals vs us → sp vs H Q E → codeAny (model P w) A (.call (.ref f) ar) (CR CX0 out P w H s Q E) s
section
variable {P : Program} {w : World} {K : PySem.W.Frag} {mg : Str → Option Value} {base : Heap} {j k : Nat} {f : Addr} {fd : FuncData} {ps : List Str} {sp : Sp}
theorem FnG.mono (G : FnG P w K mg base j f fd ps sp) (l : j ≤ k) : FnG P w K mg base k f fd ps sp := ⟨G.len, fun A out s H ar us vs Q E h => G.go A out s H ar us vs Q E (h.mono l)⟩
/-- by its body -/
theorem FunD.okG {x qual : Str} {params : Arguments} {bdy : List Stmt} {scope : Scope} {dvs : List V} {kws : List (Str × V)} {N : List Str} (Fu : FunD K x qual params bdy scope dvs kws f fd) (S : FnScope N ps scope) (len : ∀ vs H Q E, sp vs H Q E → vs.length = ps.length)
    (body : ∀ (cdv : Value) (A : Around) (out : List Env) (s : Shared) (H : Hp) (vs : List V) (Q : VK) (E : XK), Rm k (A.deeper (PyProof.Rows.envOfC qual scope s.heap.objs.size f cdv)) → sp vs H Q E →
      ∃ t, PSs (cxOf CX0 P w K mg base N qual scope f cdv A out s H E).nox bdy t ∧ t { nx := fun _ H' => Q .non H', rt := Q } (L2.start N vs) H) : FnG P w K mg base (k + 1) f fd ps sp := by
  obtain ⟨oc, od, dV, kV, doc, pm, an, cdv, ct, osl, rfl, lk, hcd, _, _⟩ := Fu.ex
  constructor
  · exact len
  intro A out s H ar us vs Q E rm e0 hb rv hsp
  have kin := e0.mod.kin.keeps fun b o e => (e0.bs b o e).1
  have nl := e0.mod.nolimit.keeps fun b o e => (e0.bs b o e).1
  have kinds : ∀ y ∈ ps.zip us, scope.names.lookup y.1 = some .local ∨ (scope.names.lookup y.1 = some .cell ∧ ((cellsFrom (s.heap.objs.size + 1) scope.names []).lookup y.1).isSome = true) := by
    rintro ⟨nm, v⟩ hy
    have := S.par nm (List.of_mem_zip hy).1
    exact this.imp id fun q => ⟨q, PySem.W.cellsFrom_some _ _ _ (.inl q)⟩
  apply codeAny_call_function rm.r.depth (kin _ _ lk) rfl S.co S.gen rfl (PySem.W.codeRec_of kin hcd)
  apply hb
  apply PySem.wpAny_newFunctionEnv_cells S.kind kinds
  rintro env rfl s1 x1
  refine ⟨nl.keeps x1.toInCall.keep, codeAny_func ?_⟩
  obtain ⟨t, ht, hq⟩ := body cdv A out s H vs Q E (rm.deeper _) hsp
  have I := inv_start (CX := CX0) (P := P) (w := w) (K := K) (mg := mg) (base := base) (qual := qual) (cd := cdv) (E := E) S rm.r.hd e0 (len _ _ _ _ hsp) rv x1
  refine wpAny_mono (ht.nox.run [] s1 _ H _ I hq) ?_ fun e s' h => h
  rintro fl s' hs
  match fl, hs with
  | .ret u, ⟨v, σ', H', J, r, q⟩ => exact ⟨v, H', J.os, J.bare, J.base, J.hok, r, q⟩
  | .next, ⟨σ', H', J, q⟩ => exact ⟨.non, H', J.os, J.bare, J.base, J.hok, rfl, q⟩
  | .brk, ⟨_, _, _, q⟩ => exact q.elim
  | .cont, ⟨_, _, _, q⟩ => exact q.elim
end
section
variable {X : Cx} {k n : Nat} {f : Addr} {fd : FuncData} {ps ks : List Str} {sp : Sp} {x : Str} {p pos : Pos} {e : Expr} {es : List Expr} {t tk : TA} {kws : List Keyword} {gq : List Value → List Value → List Value} {gV : List V → List V → List V}
theorem called {pins : List (Addr × Obj)} {σ : St} {H : Hp} {s : Shared} {Q : VK} {us : List Value} {kw : List (Str × Value)} (I : Inv X pins σ H s) (h : codeAny (model X.prog X.w) X.A (.call (.ref f) ⟨us, kw⟩) (CR CX0 X.stack X.prog X.w H s Q E0) s) :
    wpAny (model X.prog X.w) X.A (call (.ref f) us kw) (EP X pins σ Q) X.xe s := by
  apply wpAny_call
  apply codeAny_mono h
  intro r s' q
  rcases r with _ | fl
  · exact q.elim
  · rcases fl with _ | _ | _ | u
    all_goals first | exact I.after q | exact q.elim
theorem run_g {pins : List (Addr × Obj)} {σ : St} {H : Hp} {s : Shared} {Q : VK} {us : List Value} {vs : List V} (G : FnG X.prog X.w X.K X.mg X.base k f fd ps sp) (hr : Rm k X.A) (hb : Binds X.K fd ps []) (I : Inv X pins σ H s) (rv : Vals vs us) (h : sp vs H Q E0) :
    wpAny (model X.prog X.w) X.A (call (.ref f) us) (EP X pins σ Q) X.xe s := by
  have hl : us.length = ps.length := rv.length.symm.trans (G.len _ _ _ _ h)
  have hbt := hb s us I.kIn (by rw [List.append_nil]; exact hl)
  rw [List.append_nil] at hbt
  exact called I (G.go X.A X.stack s H _ us vs Q E0 hr I.env0 hbt rv h)
theorem run_gN {pins : List (Addr × Obj)} {σ : St} {H : Hp} {s : Shared} {Q : VK} {us ws : List Value} {vs zs : List V} (G : FnG X.prog X.w X.K X.mg X.base k f fd ps sp) (hr : Rm k X.A) (hb : KBn X.K fd ps n ks gq gV) (I : Inv X pins σ H s) (rv : Vals vs us) (rz : Vals zs ws)
    (l1 : vs.length = n) (l2 : zs.length = ks.length) (h : sp (gV vs zs) H Q E0) : wpAny (model X.prog X.w) X.A (call (.ref f) us (ks.zip ws)) (EP X pins σ Q) X.xe s := by
  have hbt := hb.to s us ws I.kIn (rv.length.symm.trans l1) (rz.length.symm.trans l2)
  exact called I (G.go X.A X.stack s H _ _ _ Q E0 hr I.env0 hbt (hb.rel rv rz) h)
theorem pe_callG (G : FnG X.prog X.w X.K X.mg X.base k f fd ps sp) (hr : Rm k X.A) (hg : Gl X x) (hm : X.mg x = some (.ref f)) (hk : PySem.W.keepIn X.K (.ref f) = true) (hb : Binds X.K fd ps []) (ha : PA X (e :: es) t)
    (hdb : (x == ("__debug__" : Str)) = false := by decide) (he : starEach (e :: es) X.env = (false, eval e X.env) :: starEach es X.env := by rfl) (hpl : (backTo pos (starEach es X.env)).any (·.1) = false := by rfl) :
    PE X (.Call (.Name x p) (e :: es) [] pos) (fun σ H Q => t σ H fun vs H1 => sp vs H1 Q E0) := by
  constructor
  intro pins s σ H Q I h
  apply wpAny_Call_Name_kw (ld_glob I hg hm ?_ hdb)
  apply PySem.W.callWith_K (h₀ := X.base) I.ok.mod.kin hk ?_ he hpl
  refine thn (ha.run pos pins s σ H _ I h) ?_
  rintro us s1 ⟨vs, H1, I1, r, q⟩
  exact ⟨I1.kIn, run_g G hr hb I1 r q⟩
theorem pe_callG0 (G : FnG X.prog X.w X.K X.mg X.base k f fd ps sp) (hr : Rm k X.A) (hg : Gl X x) (hm : X.mg x = some (.ref f)) (hk : PySem.W.keepIn X.K (.ref f) = true) (hb : Binds X.K fd ps [])
    (hdb : (x == ("__debug__" : Str)) = false := by decide) : PE X (.Call (.Name x p) [] [] pos) (fun σ H Q => sp [] H Q E0) := by
  constructor
  intro pins s σ H Q I h
  apply wpAny_Call_Name_kw (ld_glob I hg hm ?_ hdb)
  exact PySem.W.callWith_K0 I.kIn hk (run_g (us := []) G hr hb I .nil h)
/-- f(k = e, ..): keywords alone -/
theorem pe_callGK (G : FnG X.prog X.w X.K X.mg X.base k f fd ps sp) (hr : Rm k X.A) (hg : Gl X x) (hm : X.mg x = some (.ref f)) (hk : PySem.W.keepIn X.K (.ref f) = true) (hb : KBn X.K fd ps 0 ks gq gV)
    (hkw : PK X kws tk) (hall : (backToKw pos (keywordEach kws X.env)).all (·.1.isSome) = true := by rfl) (hks : (backToKw pos (keywordEach kws X.env)).filterMap (·.1) = ks := by rfl)
    (hdb : (x == ("__debug__" : Str)) = false := by decide) (hpl : ((backTo pos (starEach [] X.env)).any (·.1) || (backToKw pos (keywordEach kws X.env)).any (·.1.isNone)) = false := by rfl) :
    PE X (.Call (.Name x p) [] kws pos) (fun σ H Q => tk σ H fun zs H1 => zs.length = ks.length ∧ sp (gV [] zs) H1 Q E0) := by
  refine ⟨fun pins s σ H Q I h => ?_⟩
  refine PySem.wpAny_Call_Name_kw (ld_glob I hg hm ?_ hdb)
  refine PySem.W.callWith_KW0 (h₀ := X.base) I.ok.mod.kin hk hall (thn (hkw.run pos pins s σ H _ I h) fun ws s1 ⟨zs, H1, I1, rz, l1, q⟩ => ⟨I1.kIn, ?_⟩) hpl
  rw [hks]
  exact run_gN (us := []) (vs := []) G hr hb I1 .nil rz rfl l1 q
/-- f(e, .., k = v, ..) -/
theorem pe_callGN (G : FnG X.prog X.w X.K X.mg X.base k f fd ps sp) (hr : Rm k X.A) (hg : Gl X x) (hm : X.mg x = some (.ref f)) (hk : PySem.W.keepIn X.K (.ref f) = true) (hb : KBn X.K fd ps n ks gq gV)
    (ha : PA X (e :: es) t) (hkw : PK X kws tk) (hall : (backToKw pos (keywordEach kws X.env)).all (·.1.isSome) = true := by rfl) (hks : (backToKw pos (keywordEach kws X.env)).filterMap (·.1) = ks := by rfl)
    (hdb : (x == ("__debug__" : Str)) = false := by decide) (he : starEach (e :: es) X.env = (false, eval e X.env) :: starEach es X.env := by rfl)
    (hpl : ((backTo pos (starEach (e :: es) X.env)).any (·.1) || (backToKw pos (keywordEach kws X.env)).any (·.1.isNone)) = false := by rfl) :
    PE X (.Call (.Name x p) (e :: es) kws pos) (fun σ H Q => t σ H fun vs H1 => tk σ H1 fun zs H2 => vs.length = n ∧ zs.length = ks.length ∧ sp (gV vs zs) H2 Q E0) := by
  constructor
  intro pins s σ H Q I h
  apply wpAny_Call_Name_kw (ld_glob I hg hm ?_ hdb)
  apply PySem.W.callWith_KW (h₀ := X.base) I.ok.mod.kin hk hall ?_ hpl he
  refine thn (ha.run pos pins s σ H _ I h) ?_
  rintro us s1 ⟨vs, H1, I1, r, q⟩
  refine thn (hkw.run pos pins s1 σ H1 _ I1 q) ?_
  rintro ws s2 ⟨zs, H2, I2, rz, l1, l2, q2⟩
  refine ⟨I2.kIn, ?_⟩
  rw [hks]
  exact run_gN G hr hb I2 r rz l1 l2 q2
end

/-! ### the end: the law's own call -/
/-- the heap at the law's call, as the layer sees it -/
structure Start (K : PySem.W.Frag) (mg : Str → Option Value) (P : Program) (w : World) (s : Shared) (a : Addr) (ns : List Int) (H : Hp) (base : Heap) : Prop where
  seq : Cl K H a (ns.map V.int)
  only : L2.Only H
  env : Env0 P w K mg base callerA [] s H
  ns : base.Ns mainGlobals mg
theorem start_of {P : Program} {w : World} {K : PySem.W.Frag} {mg mb : Str → Option Value} {a : Addr} {s : Shared} {vs : List Value} {ns : List Int}
    (KX : K.In s.heap) (hns : s.heap.Ns mainGlobals mg) (hb : s.heap.Ns builtinsNs mb) (hbb : ∀ x : Str, x ≠ "__name__" → mb x = bootBuiltins x) (hlim : s.heap.NoLimit) (hg : s.gens = #[])
    (ha : s.heap.get? a = some { cls := .type "list", data := .seq vs.toArray }) (hi : PyProof.Rows.IntsAre vs ns) (hl : ns.length ≤ sizeLine) : ∃ H base, Start K mg P w s a ns H base := by
  have rv := vals_ints hi
  have pick : ∃ H : Hp, L2.Only H ∧ Cl K H a (ns.map V.int) ∧ HOk P w H s.heap ∧ (∀ b, H b ≠ none → b = a ∧ K.lookup a = none) := by
    cases hk : K.lookup a with
    | some o =>
      have e := KX a o hk
      rw [ha] at e
      cases e
      refine ⟨fun _ => none, fun _ => .inl rfl, .inr ⟨vs, _, hk, rv, ?_⟩, ?_, fun b z => absurd rfl z⟩
      · rw [List.length_map]; exact hl
      · intro b u z
        exact nomatch (show (none : Option HO) = some u from z)
    | none =>
      let H : Hp := fun b => if b = a then some (.frz { cls := .type "list", data := .seq vs.toArray } (.lst (ns.map V.int))) else none
      have h1 : H a = some (.frz { cls := .type "list", data := .seq vs.toArray } (.lst (ns.map V.int))) := if_pos rfl
      have h2 : ∀ b, b ≠ a → H b = none := fun b n => if_neg n
      refine ⟨H, fun b => ?_, .inl ⟨_, h1⟩, fun b u z => ?_, fun b z => ⟨Classical.byContradiction fun n => z (h2 b n), rfl⟩⟩
      · by_cases e : b = a
        · subst e; exact .inr ⟨_, _, h1⟩
        · exact .inl (h2 b e)
      · by_cases e : b = a
        · subst e
          rw [h1] at z
          cases z
          exact ⟨ha, by rw [List.length_map]; exact hl, vs, _, rv, ha⟩
        · rw [h2 b e] at z; cases z
  obtain ⟨H, hO, hS, hok, hA⟩ := pick
  have free : ∀ b o, s.heap.get? b = some o → (∀ l n, o.data ≠ .seq l n) → H b = none := fun b o e d => by
    cases q : H b with
    | none => rfl
    | some u =>
      obtain ⟨rfl, _⟩ := hA b (by rw [q]; exact fun z => nomatch z)
      rw [ha] at e
      cases e
      exact absurd rfl (d _ _)
  have hn : ∀ {b : Addr} {m : Str → Option Value}, s.heap.Ns b m → (hidT s.heap H).Ns b m := by
    rintro b m ⟨o, es, ep, e, d, r⟩
    exact ⟨o, es, ep, hidT_get e (free b o e fun l n z => by rw [d] at z; cases z), d, r⟩
  have kin : K.In (hidT s.heap H) := fun b o e => by
    refine hidT_get (KX b o e) ?_
    cases q : H b with
    | none => rfl
    | some u =>
      obtain ⟨rfl, z⟩ := hA b (by rw [q]; exact fun z => nomatch z)
      rw [z] at e; cases e
  obtain ⟨mc, h1, h2⟩ := hlim
  refine ⟨H, hidT s.heap H, hS, hO, ⟨rfl, ⟨kin, hn hns, ⟨mb, hn hb, hbb⟩, ⟨mc, hn h1, h2⟩⟩, fun b o e => of_hidT e, Nat.le_of_eq (hidT_size _ _), trivial, ?_, hok, .of_eq hg⟩, hn hns⟩
  intro b z
  exact absurd (show b ∈ ([] : List Addr) from z) List.not_mem_nil
theorem end_of {P : Program} {w : World} {K : PySem.W.Frag} {mg : Str → Option Value} {s s' : Shared} {a : Addr} {ns : List Int} {H : Hp} {base : Heap} {r : Result} (S : Start K mg P w s a ns H base) (h : CR CX0 [] P w H s (fun v _ => v = .bl true) E0 r s') :
    r = .ok (.ret (.bool true)) ∧ OldK s.heap s'.heap ∧ s'.os = s.os ∧ PyProof.Rows.AllBare s'.gens := by
  match r, h with
  | .error _, h => exact h.elim
  | .ok .next, h => exact h.elim
  | .ok .brk, h => exact h.elim
  | .ok .cont, h => exact h.elim
  | .ok (.ret u), ⟨v, H', os, bare, un, hok, rv, q⟩ =>
    subst q
    have eu : u = .bool true := rv
    subst eu
    refine ⟨rfl, OldK.of_keep fun b o e => ?_, os, bare⟩
    rcases S.only b with z | ⟨ob, xs, z⟩
    · exact un.keep b o e z (fun w => absurd (show b ∈ ([] : List Addr) from w) List.not_mem_nil) List.not_mem_nil
    · have e1 := (S.env.hok b _ z).1
      have e2 := (hok b _ (un.frzs b ob _ z)).1
      rw [e] at e1
      cases e1
      exact e2
/-- a law's walk -/
theorem walk_g {l : PySem.W.OpenLaw} {n k : Nat} {q : Program} {loose : List Str} {XP : (Str → Option Value) → Heap → Prop} {YP : World → Heap → Prop} {d : PySem.DefRec} {x : Str}
    (hn : l.most = some n) (hn2 : n ≤ sizeLine) (hdf : d.params.defaults = []) (hr : Rm k callerA)
    (F : ∀ (w : World) (mg : Str → Option Value) (fa : Addr) (h : Heap), YP w h → h.Ns mainGlobals mg → mg d.name = some (.ref fa) →
      ∃ (K : PySem.W.Frag) (fd : FuncData) (sp : Sp), K.In h ∧ (∀ (s : Shared) (u : Value), BindsTo s fd ⟨[u], []⟩ [(x, u)]) ∧
        (∀ (H : Hp) (a : Addr) (ns : List Int), ns.length ≤ n → L2.Only H → Cl K H a (ns.map V.int) → sp [.ref a] H (fun v _ => v = .bl true) E0) ∧
        ∀ base : Heap, K.In base → base.Ns mainGlobals mg → FnG l.prog w K mg base k fa fd [x] sp) :
    PySem.W.WalkO q loose XP YP l.row.toRowW d [] (fun f vs => PySem.call f vs) := by
  apply Att.attach_call hn hdf
  intro w s₀ s₁ mg mb fa o pm cd doc a vs ns G Y ho hd hcd hmg hobj hints hlen hg
  obtain ⟨K, fd, sp, KX, hb, hsp, hF⟩ := F w mg fa _ Y G.T.g hmg
  obtain ⟨H, base, S⟩ := start_of (P := l.prog) (w := w) KX G.T.g G.T.b G.T.builtins G.T.nolimit hg hobj hints (Nat.le_trans hlen hn2)
  refine codeAny_mono ((hF base S.env.mod.kin S.ns).go callerA [] s₁ H ⟨[.ref a], []⟩ [.ref a] [.ref a] _ _ hr S.env (hb s₁ _) (.cons rfl .nil) (hsp H a ns hlen S.only S.seq)) fun r s' h => end_of S h
end Ew

/-! EwCall: several stores at once; what a def promises; calls of defs. -/
namespace Ew
open PySem L2

/-! ### a, b, .. = x, y, .. with new objects among them -/
inductive Mx (K : PySem.W.Frag) (F : Addr → Prop) (H : Hp) (σ : St) (env : En) : List V → List Sl → Prop
  | nil : Mx K F H σ env [] []
  | fz {v : V} {d : D} {vs : List V} {ss : List Sl} : Fz K F H v d → Mx K F H σ env vs ss → Mx K F H σ env (v :: vs) (.fz d :: ss)
  | ow {p : Addr} {d : D} {vs : List V} {ss : List Sl} : ¬ F p → ¬ Owned σ env p → Bd K F H p d → (∀ (j : Nat) (d : D), ss[j]? = some (.ow d) → vs[j]? ≠ some (.ref p)) → Mx K F H σ env vs ss → Mx K F H σ env (.ref p :: vs) (.ow d :: ss)
abbrev Fm := En → Option (List Sl × En)
def NewOw (H : Hp) (vs : List V) (ss : List Sl) : Prop := ∀ (j : Nat) (d : D) (p : Addr), ss[j]? = some (.ow d) → vs[j]? = some (.ref p) → H p = none
def tM (K : PySem.W.Frag) (a0 : Addr) (f : Fm) : TA := fun σ H R => ∃ F env, Rel K a0 F H σ env ∧ ∃ ss env', f env = some (ss, env') ∧
  ∀ vs F' H', Stp F H σ env F' H' σ env' → Rel K a0 F' H' σ env' → Mx K F' H' σ env' vs ss → NewOw H vs ss → R vs H'
structure SM (X : Cx) (a0 : Addr) (es : List Expr) (f : Fm) : Prop where
  ex : ∃ ts, PA X es (taOf ts) ∧ ∀ σ H R, tM X.K a0 f σ H R → taOf ts σ H R
def nilM : Fm := fun env => some ([], env)
def consMf (f : Fn) (g : Fm) : Fm := fun env => (f env).bind fun x => (g x.2).bind fun y => some (.fz x.1 :: y.1, y.2)
def consMo (f : Fn) (g : Fm) : Fm := fun env => (f env).bind fun x => (g x.2).bind fun y => some (.ow x.1 :: y.1, y.2)
def putL : En → List Nat → List Sl → Option En
  | env, [], [] => some env
  | env, i :: is, s :: ss => (put env i s).bind fun e => putL e is ss
  | _, _, _ => none
def setL : St → List Nat → List V → St
  | σ, i :: is, v :: vs => setL (σ.set i (some v)) is vs
  | σ, _, _ => σ
def parS (is : List Nat) (f : Fm) : Fs := fun env => (f env).bind fun x => (putL x.2 is x.1).map fun e => (.nx, e)
section
variable {X : Cx} {a0 : Addr} {fr : Bool} {e : Expr} {es : List Expr} {f : Fn} {g : Fm} {pos : Pos}
theorem sm_nil : SM X a0 [] nilM := ⟨[], pa_nil, fun σ H R ⟨F, env, rel, ss, env', q, k⟩ => by cases q; exact k [] F H Stp.refl rel .nil fun j d p h => by simp at h⟩
theorem sm_fz (he : SE X a0 e f) (hr : SM X a0 es g) (hs : starEach (e :: es) X.env = (false, eval e X.env) :: starEach es X.env := by rfl) : SM X a0 (e :: es) (consMf f g) := by
  obtain ⟨ts, h2, h3⟩ := hr.ex
  refine ⟨_ :: ts, pa_cons he.run h2 hs, fun σ H R ⟨F, env, rel, ss, env', q, k⟩ => ?_⟩
  obtain ⟨⟨d, env1⟩, q1, q⟩ := Option.bind_eq_some_iff.mp q
  obtain ⟨⟨ss', env2⟩, q2, q⟩ := Option.bind_eq_some_iff.mp q
  cases q
  refine ⟨F, env, rel, d, env1, q1, fun v F1 H1 S1 R1 z1 => h3 σ H1 _ ⟨F1, env1, R1, ss', env2, q2, fun vs F2 H2 S2 R2 z2 nw => ?_⟩⟩
  refine k _ F2 H2 (S1.trans S2) R2 (.fz (S2.fz R1 z1) z2) fun j d p h1 h2 => ?_
  cases j with
  | zero => simp at h1
  | succ j => exact S1.new_of (nw j d p (by simpa using h1) (by simpa using h2))
theorem sm_ow (he : SO X a0 e f) (hr : SM X a0 es g) (hs : starEach (e :: es) X.env = (false, eval e X.env) :: starEach es X.env := by rfl) : SM X a0 (e :: es) (consMo f g) := by
  obtain ⟨ts, h2, h3⟩ := hr.ex
  refine ⟨_ :: ts, pa_cons he.run h2 hs, fun σ H R ⟨F, env, rel, ss, env', q, k⟩ => ?_⟩
  obtain ⟨⟨d, env1⟩, q1, q⟩ := Option.bind_eq_some_iff.mp q
  obtain ⟨⟨ss', env2⟩, q2, q⟩ := Option.bind_eq_some_iff.mp q
  cases q
  refine ⟨F, env, rel, d, env1, q1, fun p F1 H1 S1 R1 hp nf no b => h3 σ H1 _ ⟨F1, env1, R1, ss', env2, q2, fun vs F2 H2 S2 R2 z2 nw => ?_⟩⟩
  have eH : H2 p = H1 p := by
    cases e : H1 p with
    | none => exact absurd e b.ne
    | some o => exact S2.keep p o e no
  refine k _ F2 H2 (S1.trans S2) R2 (.ow (fun z => ?_) (fun w => ?_) (b.mono S2.sub (S2.hk R1) eH) (fun j d h1 h2 => b.ne (nw j d p h1 h2)) z2) fun j d q h1 h2 => ?_
  · rcases S2.new p z with z | z | z
    · exact nf z
    · exact b.ne z
    · exact no z
  · rcases S2.own p w with w | w
    · exact no w
    · exact b.ne w
  · cases j with
    | zero => simp at h1 h2; exact h2 ▸ hp
    | succ j => exact S1.new_of (nw j d q (by simpa using h1) (by simpa using h2))
theorem Rel.putL {K a0 F H} : ∀ {is : List Nat} {vs : List V} {ss : List Sl} {σ : St} {env env' : En}, Rel K a0 F H σ env → Mx K F H σ env vs ss → putL env is ss = some env' →
    Rel K a0 F H (setL σ is vs) env' ∧ ∀ a, Owned (setL σ is vs) env' a → Owned σ env a ∨ ∃ (j : Nat) (d : D), ss[j]? = some (.ow d) ∧ vs[j]? = some (.ref a)
  | [], [], _, σ, env, env', R, .nil, h => by cases h; exact ⟨R, fun a w => .inl w⟩
  | [], _ :: _, _, _, _, _, _, .fz _ _, h => nomatch h
  | [], _ :: _, _, _, _, _, _, .ow _ _ _ _ _, h => nomatch h
  | _ :: _, [], _, _, _, _, _, .nil, h => nomatch h
  | i :: is, v :: vs, _, σ, env, env', R, .fz (d := d) (ss := ss) z m, h => by
    obtain ⟨env1, h1, h2⟩ := Option.bind_eq_some_iff.mp h
    obtain ⟨R1, o1⟩ := R.put h1 (show SlV K F H σ env v (.fz d) from z)
    have m1 : Mx K F H (σ.set i (some v)) env1 vs ss := by
      clear h2 h
      induction m with
      | nil => exact .nil
      | fz z' _ ih => exact .fz z' ih
      | ow a1 a2 a3 a4 _ ih => exact .ow a1 (fun w => (o1 _ w).elim a2 fun ⟨_, _, e⟩ => nomatch e) a3 a4 ih
    obtain ⟨R2, o2⟩ := Rel.putL R1 m1 h2
    refine ⟨R2, fun a w => ?_⟩
    rcases o2 a w with w | ⟨j, d', e1, e2⟩
    · rcases o1 a w with w | ⟨_, _, e⟩
      · exact .inl w
      · exact nomatch e
    · exact .inr ⟨j + 1, d', by simpa using e1, by simpa using e2⟩
  | i :: is, _ :: vs, _, σ, env, env', R, .ow (p := p) (d := d) (ss := ss) nf no b hne m, h => by
    obtain ⟨env1, h1, h2⟩ := Option.bind_eq_some_iff.mp h
    obtain ⟨R1, o1⟩ := R.put h1 (show SlV K F H σ env (.ref p) (.ow d) from ⟨p, rfl, nf, no, b⟩)
    have m1 : Mx K F H (σ.set i (some (.ref p))) env1 vs ss := by
      clear h2 h
      induction m with
      | nil => exact .nil
      | fz z' _ ih => exact .fz z' (ih fun j d e => by simpa using hne (j + 1) d (by simpa using e))
      | ow a1 a2 a3 a4 _ ih =>
        refine .ow a1 (fun w => (o1 _ w).elim a2 fun ⟨e, _⟩ => ?_) a3 a4 (ih fun j d e => by simpa using hne (j + 1) d (by simpa using e))
        exact hne 0 _ rfl (by rw [e]; rfl)
    obtain ⟨R2, o2⟩ := Rel.putL R1 m1 h2
    refine ⟨R2, fun a w => ?_⟩
    rcases o2 a w with w | ⟨j, d', e1, e2⟩
    · rcases o1 a w with w | ⟨e, _, _⟩
      · exact .inl w
      · exact .inr ⟨0, d, rfl, by rw [← e]; rfl⟩
    · exact .inr ⟨j + 1, d', by simpa using e1, by simpa using e2⟩
end
section
variable {X : Cx} {a0 : Addr} {fr : Bool} {g : Fm} {pos : Pos} {a b c : Expr}
theorem putL_len {env env' : En} : ∀ {is : List Nat} {ss : List Sl}, putL env is ss = some env' → is.length = ss.length
  | [], [], _ => rfl
  | [], _ :: _, h => nomatch h
  | _ :: _, [], h => nomatch h
  | i :: is, s :: ss, h => by
    obtain ⟨e1, _, h2⟩ := Option.bind_eq_some_iff.mp h
    have z := putL_len h2
    simp [z]
theorem Mx.length {K F H σ env} : ∀ {vs : List V} {ss : List Sl}, Mx K F H σ env vs ss → vs.length = ss.length
  | _, _, .nil => rfl
  | _, _, .fz _ m => by simp [Mx.length m]
  | _, _, .ow _ _ _ _ m => by simp [Mx.length m]
theorem par_run {is : List Nat} {ts : List TE} {Z : Ends} {σ : St} {H : Hp} {R : List V → Hp → Prop} (h3 : ∀ σ H R, tM X.K a0 g σ H R → taOf ts σ H R) (h : tS X.K a0 fr (parS is g) Z σ H)
    (hR : ∀ vs H1, vs.length = is.length → Z.nx (setL σ is vs) H1 → R vs H1) : taOf ts σ H R := by
  obtain ⟨F, env, Rl, fl, env', q, k⟩ := h
  obtain ⟨⟨ss, env1⟩, q1, q⟩ := Option.bind_eq_some_iff.mp q
  obtain ⟨env2, q2, q⟩ := Option.map_eq_some_iff.mp q
  cases q
  refine h3 σ H _ ⟨F, env, Rl, ss, env1, q1, fun vs F1 H1 S1 R1 m nw => hR vs H1 (by rw [m.length, putL_len q2]) ?_⟩
  obtain ⟨R2, o2⟩ := R1.putL m q2
  refine k _ F1 H1 ⟨S1.sub, S1.new, S1.keep, S1.dom, fun a w => ?_⟩ R2
  rcases o2 a w with w | ⟨j, d, e1, e2⟩
  · exact S1.own a w
  · exact .inr (nw j d a e1 e2)
theorem ss_par2 {i j : Nat} {x y : Str} {px py pt : Pos} {kt k2 pt2} (hc : X.calm = true) (hN : X.N.Nodup) (hi : X.N[i]? = some x) (hj : X.N[j]? = some y) (hij : i ≠ j)
    (hx : X.env.scope.names.lookup x = some .local) (hy : X.env.scope.names.lookup y = some .local) (ha : SM X a0 [a, b] g)
    (hw : swappedStores [.Tuple [.Name x px, .Name y py] kt pt] (.Tuple [a, b] k2 pt2) X.env = pure (some [x, y]))
    (hs : swapsWithSole [.Tuple [.Name x px, .Name y py] kt pt] (.Tuple [a, b] k2 pt2) pos.line X.env = pure false := by rfl) :
    SS X a0 fr (.Assign [.Tuple [.Name x px, .Name y py] kt pt] (.Tuple [a, b] k2 pt2) pos) (parS [i, j] g) := by
  obtain ⟨ts, h2, h3⟩ := ha.ex
  refine ⟨PSimp (ps_par hc hN hi hj hij hx hy h2 hw hs) fun Z σ H h => par_run h3 h fun vs H1 hl z => ?_⟩
  match vs, hl, z with
  | [v, w], _, z => exact ⟨v, w, rfl, z⟩
theorem ss_par3 {i j l : Nat} {x y z : Str} {px py pz pt : Pos} {kt k2 pt2} (hc : X.calm = true) (hN : X.N.Nodup) (hi : X.N[i]? = some x) (hj : X.N[j]? = some y) (hl : X.N[l]? = some z) (hij : i ≠ j) (hil : i ≠ l) (hjl : j ≠ l)
    (hx : X.env.scope.names.lookup x = some .local) (hy : X.env.scope.names.lookup y = some .local) (hz : X.env.scope.names.lookup z = some .local) (ha : SM X a0 [a, b, c] g)
    (hw : swappedStores [.Tuple [.Name x px, .Name y py, .Name z pz] kt pt] (.Tuple [a, b, c] k2 pt2) X.env = pure (some [x, y, z]))
    (hs : swapsWithSole [.Tuple [.Name x px, .Name y py, .Name z pz] kt pt] (.Tuple [a, b, c] k2 pt2) pos.line X.env = pure false := by rfl) :
    SS X a0 fr (.Assign [.Tuple [.Name x px, .Name y py, .Name z pz] kt pt] (.Tuple [a, b, c] k2 pt2) pos) (parS [i, j, l] g) := by
  obtain ⟨ts, h2, h3⟩ := ha.ex
  refine ⟨PSimp (ps_par3 hc hN hi hj hl hij hil hjl hx hy hz h2 hw hs) fun Z σ H h => par_run h3 h fun vs H1 hl z => ?_⟩
  match vs, hl, z with
  | [u, v, w], _, z => exact ⟨u, v, w, rfl, z⟩
/-- names, one behind another -/
def gNames : List Nat → TGs
  | [] => gNil
  | i :: is => gCons (gName i) (gNames is)
structure SN (X : Cx) (is : List Nat) (es : List Expr) : Prop where
  run : PGs X es (gNames is)
theorem sn_nil : SN X [] [] := ⟨pgs_nil⟩
theorem sn_cons {i : Nat} {is : List Nat} {x : Str} {es : List Expr} (hN : X.N.Nodup) (hi : X.N[i]? = some x) (hx : Loc X.env.scope x) (hr : SN X is es) (hf : X.fn x = true ∨ X.env.scope.names.lookup x = some .local := by first | exact .inl rfl | exact .inr rfl | assumption)
    (hs : (assignEach (.Name x pos :: es) X.env).map (·.2) = assign (.Name x pos) X.env :: (assignEach es X.env).map (·.2) := by rfl) : SN X (i :: is) (.Name x pos :: es) := ⟨pgs_cons (pg_name hN hi hx hf) hr.run hs⟩
theorem gNames_run {Q : St → Hp → Prop} {H : Hp} : ∀ {is : List Nat} {vs : List V} {σ : St}, vs.length = is.length → Q (setL σ is vs) H → gNames is vs σ H Q
  | [], [], _, _, q => ⟨rfl, q⟩
  | [], _ :: _, _, h, _ => nomatch h
  | _ :: _, [], _, h, _ => nomatch h
  | i :: is, v :: vs, σ, h, q => ⟨v, vs, rfl, gNames_run (by simpa using h) q⟩
/-- any number of names: by a tuple -/
theorem ss_parN {is : List Nat} {xs es : List Expr} {kt k2 : Nat} {pt pt2 : Pos} (hc : X.calm = true) (hx : SN X is xs) (ha : SM X a0 es g) (hz : is.length ≤ 1000) (hn : (assignEach xs X.env).length = is.length := by rfl) (hst : (assignEach xs X.env).findIdx? (·.1) = none := by rfl)
    (hs : swapsWithSole [.Tuple xs kt pt] (.Tuple es k2 pt2) pos.line X.env = pure false := by rfl) (hw : swappedStores [.Tuple xs kt pt] (.Tuple es k2 pt2) X.env = pure none := by rfl)
    (h1 : (assignEach [.Tuple xs kt pt] X.env).map (·.2) = [assign (.Tuple xs kt pt) X.env] := by rfl) : SS X a0 fr (.Assign [.Tuple xs kt pt] (.Tuple es k2 pt2) pos) (parS is g) := by
  obtain ⟨ts, h2, h3⟩ := ha.ex
  refine ⟨PSimp (ps_asg (pe_tup h2) (pg_tup hc hx.run hn hst) hs hw h1) fun Z σ H h => ?_⟩
  obtain ⟨F, env, Rl, fl, env', q, k⟩ := h
  obtain ⟨⟨ss, env1⟩, q1, q⟩ := Option.bind_eq_some_iff.mp q
  obtain ⟨env2, q2, q⟩ := Option.map_eq_some_iff.mp q
  cases q
  refine h3 σ H _ ⟨F, env, Rl, ss, env1, q1, fun vs F1 H1 S1 R1 m nw => ⟨len1000 (by rw [m.length, ← putL_len q2]; exact hz), fun p hp => ?_⟩⟩
  have G : Grow F1 H1 F1 (upd H1 p (.tup vs)) := Grow.new1 hp
  have m' : Mx X.K F1 (upd H1 p (.tup vs)) σ env1 vs ss := by
    clear q2 nw
    have key : ∀ {vs' : List V} {ss : List Sl}, Mx X.K F1 H1 σ env1 vs' ss → Mx X.K F1 (upd H1 p (.tup vs)) σ env1 vs' ss := fun m => by
      induction m with
      | nil => exact .nil
      | fz z _ ih => exact .fz (G.fz z) ih
      | ow a1 a2 a3 a4 _ ih => exact .ow a1 a2 (G.bd a3) a4 ih
    exact key m
  obtain ⟨R2, o2⟩ := (G.rel R1).putL m' q2
  have S2 := S1.trans G.stp
  refine ⟨p, vs, rfl, SqT.of upd_same, by rw [m.length, ← putL_len q2], gNames_run (by rw [m.length, ← putL_len q2]) (k _ F1 _ ⟨S2.sub, S2.new, S2.keep, S2.dom, fun a w => ?_⟩ R2)⟩
  rcases o2 a w with w | ⟨j, d, e1, e2⟩
  · exact S2.own a w
  · exact .inr (nw j d a e1 e2)
end

/-! ### what a def promises -/
def ResOk (K : PySem.W.Frag) (fr : Bool) (H : Hp) (F' : Addr → Prop) (H' : Hp) (v : V) (d : D) : Prop :=
  if fr = true then ∃ p, v = .ref p ∧ H p = none ∧ ¬ F' p ∧ Bd K F' H' p d else Fz K F' H' v d
/-- a def of n parameters that changes nothing: what it hands back (fr: a new object, nobody's yet) -/
def spP (K : PySem.W.Frag) (fr : Bool) (n : Nat) (G : List D → Option D) : Sp := fun vs H Q _ => vs.length = n ∧ ∃ F ds d, FzAll K F H vs ds ∧ (∀ a, F a → H a ≠ none) ∧ G ds = some d ∧
  ∀ v F' H', Grow F H F' H' → ResOk K fr H F' H' v d → Q v H'
structure GrowM (a : Addr) (F : Addr → Prop) (H : Hp) (F' : Addr → Prop) (H' : Hp) : Prop where
  sub : ∀ x, F x → F' x
  new : ∀ x, F' x → F x ∨ (H x = none ∧ H' x ≠ none)
  keep : ∀ x o, x ≠ a → H x = some o → H' x = some o
/-- a def that changes its first argument, a list or a dict -/
def spM (K : PySem.W.Frag) (fr : Bool) (n : Nat) (G : D → List D → Option (D × D)) : Sp := fun vs H Q _ => vs.length = n ∧ ∃ F a ws d0 ds d d1, vs = .ref a :: ws ∧ Bd K F H a d0 ∧ ¬ F a ∧ FzAll K F H ws ds ∧ (∀ a, F a → H a ≠ none) ∧ G d0 ds = some (d, d1) ∧
  ∀ v F' H', GrowM a F H F' H' → Bd K F' H' a d1 → ¬ F' a → ResOk K fr H F' H' v d → Q v H'
def envP (n : Nat) (ds : List D) : En := ds.map Sl.fz ++ List.replicate (n - ds.length) Sl.un
def semP (n : Nat) (fr : Bool) (g : Fs) (ds : List D) : Option D := match g (envP n ds) with
  | some (.rt d, _) => some d
  | some (.nx, _) => if fr = true then none else some .none
  | _ => none
def mpOf (env : En) : Option D := match (env[(0 : Nat)]? : Option Sl) with
  | some (.mp d) => some d
  | _ => none
def semM (n : Nat) (fr : Bool) (g : Fs) (d0 : D) (ds : List D) : Option (D × D) := match g (Sl.mp d0 :: (ds.map Sl.fz ++ List.replicate (n - (ds.length + 1)) Sl.un)) with
  | some (.rt d, env) => (mpOf env).map fun d1 => (d, d1)
  | some (.nx, env) => if fr = true then none else (mpOf env).map fun d1 => (.none, d1)
  | _ => none
theorem fz_slots {K a0 F H} : ∀ {vs : List V} {ds : List D} (m : Nat), FzAll K F H vs ds → (∀ a, F a → H a ≠ none) → Rel K a0 F H (vs.map some ++ List.replicate m none) (ds.map Sl.fz ++ List.replicate m Sl.un) ∧
    ∀ i, ¬ OwAt (ds.map Sl.fz ++ List.replicate m Sl.un) i := fun {vs ds} m h hd => by
  have no : ∀ (i : Nat) (s : Sl), (ds.map Sl.fz ++ List.replicate m Sl.un)[i]? = some s → (∃ d, s = .fz d ∧ ds[i]? = some d) ∨ s = .un := fun i s e => by
    by_cases hi : i < ds.length
    · rw [List.getElem?_append_left (by simpa using hi), List.getElem?_map, List.getElem?_eq_getElem hi] at e
      cases e
      exact .inl ⟨_, rfl, List.getElem?_eq_getElem hi⟩
    · rw [List.getElem?_append_right (by simpa using hi)] at e
      rw [List.getElem?_replicate] at e
      split at e
      · cases e; exact .inr rfl
      · cases e
  have nw : ∀ i, ¬ OwAt (ds.map Sl.fz ++ List.replicate m Sl.un) i := fun i ⟨s, e, w⟩ => by
    rcases no i s e with ⟨d, rfl, _⟩ | rfl <;> cases w
  refine ⟨⟨by simp [h.length], hd, fun i d e => ?_, fun i d e => absurd ⟨_, e, rfl⟩ (nw i), fun i d e => absurd ⟨_, e, rfl⟩ (nw i), fun i j a _ w _ _ _ => nw i w⟩, nw⟩
  rcases no i _ e with ⟨d', e', q⟩ | e'
  · cases e'
    obtain ⟨v, h1, h2⟩ := h.get q
    have hi : i < vs.length := (List.getElem?_eq_some_iff.mp h1).1
    refine ⟨v, ?_, h2⟩
    rw [List.getElem?_append_left (by simpa using hi), List.getElem?_map, h1]
    rfl
  · cases e'
section
variable {P : Program} {w : World} {K : PySem.W.Frag} {mg : Str → Option Value} {base : Heap}
theorem fn_p {x qual : Str} {params : Arguments} {bdy : List Stmt} {scope : Scope} {dvs : List V} {kws : List (Str × V)} {f : Addr} {fd : FuncData} {N ps : List Str} {k : Nat} {fr : Bool} {g : Fs} (Fu : FunD K x qual params bdy scope dvs kws f fd) (S : FnScope N ps scope)
    (hb : ∀ (cdv : Value) (A : Around) (outer : List Env) (s : Shared) (H : Hp) (E : XK), Rm k (A.deeper (PyProof.Rows.envOfC qual scope s.heap.objs.size f cdv)) → SB (cxOf CX0 P w K mg base N qual scope f cdv A outer s H E).nox 0 fr bdy g) :
    FnG P w K mg base (k + 1) f fd ps (spP K fr ps.length (semP N.length fr g)) := by
  refine FunD.okG Fu S (fun vs H Q E h => h.1) fun cdv A outer s H vs Q E hr h => ?_
  obtain ⟨hl, F, ds, d, hz, hd, e, q⟩ := h
  refine ⟨_, (hb cdv A outer s H E hr).run, ?_⟩
  obtain ⟨R, nw⟩ := fz_slots (a0 := 0) (N.length - ds.length) hz hd
  have now : ∀ a, ¬ Owned (L2.start N vs) (envP N.length ds) a := fun a ⟨i, w', _⟩ => nw i w'
  have R' : Rel K 0 F H (L2.start N vs) (envP N.length ds) := by
    unfold L2.start envP
    rw [hz.length]
    exact R
  have fin : ∀ {F' H' σ' env'}, Stp F H (L2.start N vs) (envP N.length ds) F' H' σ' env' → Rel K 0 F' H' σ' env' → Grow F H F' H' := fun {F' H' σ' env'} S1 R1 =>
    ⟨S1.sub, fun a z => by
      rcases S1.new a z with y | y | y
      · exact .inl y
      · exact .inr ⟨y, R1.fd a z⟩
      · exact absurd y (now a), fun a o e => S1.keep a o e (now a)⟩
  unfold semP at e
  cases eg : g (envP N.length ds) with
  | none => rw [eg] at e; cases e
  | some r =>
    obtain ⟨fl, env'⟩ := r
    rw [eg] at e
    refine ⟨F, _, R', fl, env', eg, ?_⟩
    cases fl with
    | rt d' =>
      cases e
      intro v σ' F' H' S1 R1 ro
      refine q v F' H' (fin S1 R1) ?_
      unfold RetOk at ro
      unfold ResOk
      cases fr with
      | false => exact ro
      | true =>
        obtain ⟨p, h1, h2, h3, h4, h5⟩ := ro
        exact ⟨p, h1, h3.resolve_left (now p), h2, h5⟩
    | nx =>
      cases fr with
      | true => exact nomatch e
      | false =>
        cases e
        exact fun σ' F' H' S1 R1 => q .non F' H' (fin S1 R1) .non
    | bk => cases e
    | ct => cases e
theorem fn_m {x qual : Str} {params : Arguments} {bdy : List Stmt} {scope : Scope} {dvs : List V} {kws : List (Str × V)} {f : Addr} {fd : FuncData} {N ps : List Str} {k : Nat} {fr : Bool} {g : Fs} (Fu : FunD K x qual params bdy scope dvs kws f fd) (S : FnScope N ps scope) (hps : ps ≠ []) 
    (hb : ∀ (cdv : Value) (A : Around) (outer : List Env) (s : Shared) (H : Hp) (E : XK) (a0 : Addr), Rm k (A.deeper (PyProof.Rows.envOfC qual scope s.heap.objs.size f cdv)) → SB (cxOf CX0 P w K mg base N qual scope f cdv A outer s H E).nox a0 fr bdy g) :
    FnG P w K mg base (k + 1) f fd ps (spM K fr ps.length (semM N.length fr g)) := by
  refine FunD.okG Fu S (fun vs H Q E h => h.1) fun cdv A outer s H vs Q E hr h => ?_
  obtain ⟨hl, F, a, ws, d0, ds, d, d1, rfl, b0, nf, hz, hd, e, q⟩ := h
  refine ⟨_, (hb cdv A outer s H E a hr).run, ?_⟩
  obtain ⟨R0, nw⟩ := fz_slots (a0 := a) (N.length - (ds.length + 1)) hz hd
  have es : L2.start N (.ref a :: ws) = some (.ref a) :: (ws.map some ++ List.replicate (N.length - (ds.length + 1)) none) := by
    unfold L2.start
    rw [List.length_cons, hz.length]
    rfl
  have owi : ∀ i, OwAt (Sl.mp d0 :: (ds.map Sl.fz ++ List.replicate (N.length - (ds.length + 1)) Sl.un)) i → i = 0 := fun i ⟨s, e, w'⟩ => by
    cases i with
    | zero => rfl
    | succ i => exact absurd ⟨s, by simpa using e, w'⟩ (nw i)
  have R : Rel K a F H (L2.start N (.ref a :: ws)) (Sl.mp d0 :: (ds.map Sl.fz ++ List.replicate (N.length - (ds.length + 1)) Sl.un)) := by
    rw [es]
    refine ⟨by simp [hz.length], hd, fun i d e => ?_, fun i d e => ?_, fun i d e => ?_, fun i j b hij w1 w2 _ _ => hij ((owi i w1).trans (owi j w2).symm)⟩
    · cases i with
      | zero => cases e
      | succ i => exact R0.fz i d (by simpa using e)
    · have z := owi i ⟨_, e, rfl⟩
      subst z; cases e
    · have z := owi i ⟨_, e, rfl⟩
      subst z; cases e
      exact ⟨rfl, nf, b0⟩
  have own : ∀ b, Owned (L2.start N (.ref a :: ws)) (Sl.mp d0 :: (ds.map Sl.fz ++ List.replicate (N.length - (ds.length + 1)) Sl.un)) b → b = a := fun b ⟨i, w', e⟩ => by
    have z := owi i w'
    subst z
    rw [es] at e
    cases e; rfl
  have fin : ∀ {F' H' σ' env' d1}, Stp F H (L2.start N (.ref a :: ws)) (Sl.mp d0 :: (ds.map Sl.fz ++ List.replicate (N.length - (ds.length + 1)) Sl.un)) F' H' σ' env' → Rel K a F' H' σ' env' → mpOf env' = some d1 → GrowM a F H F' H' ∧ Bd K F' H' a d1 ∧ ¬ F' a ∧ Owned σ' env' a := fun {F' H' σ' env' d1} S1 R1 em => by
    have e0 : env'[0]? = some (.mp d1) := by
      unfold mpOf at em
      split at em
      · rename_i hh; cases em; exact hh
      · cases em
    obtain ⟨m1, m2, m3⟩ := R1.mp 0 d1 e0
    refine ⟨⟨S1.sub, fun b z => ?_, fun b o hb e => S1.keep b o e fun w => hb (own b w)⟩, m3, m2, 0, ⟨_, e0, rfl⟩, m1⟩
    rcases S1.new b z with y | y | y
    · exact .inl y
    · exact .inr ⟨y, R1.fd b z⟩
    · have z1 := own b y
      subst z1
      exact absurd z m2
  unfold semM at e
  cases eg : g (Sl.mp d0 :: (ds.map Sl.fz ++ List.replicate (N.length - (ds.length + 1)) Sl.un)) with
  | none => rw [eg] at e; cases e
  | some r =>
    obtain ⟨fl, env'⟩ := r
    rw [eg] at e
    refine ⟨F, _, R, fl, env', eg, ?_⟩
    cases fl with
    | rt d' =>
      obtain ⟨d1', em, e⟩ := Option.map_eq_some_iff.mp e
      cases e
      intro v σ' F' H' S1 R1 ro
      obtain ⟨g1, g2, g3, g4⟩ := fin S1 R1 em
      refine q v F' H' g1 g2 g3 ?_
      unfold RetOk at ro
      unfold ResOk
      cases fr with
      | false => exact ro
      | true =>
        obtain ⟨p, h1, h2, h3, h4, h5⟩ := ro
        refine ⟨p, h1, h3.resolve_left fun w => ?_, h2, h5⟩
        have z := own p w
        subst z
        exact h4 g4
    | nx =>
      cases fr with
      | true => exact nomatch e
      | false =>
        obtain ⟨d1', em, e⟩ := Option.map_eq_some_iff.mp e
        cases e
        intro σ' F' H' S1 R1
        obtain ⟨g1, g2, g3, _⟩ := fin S1 R1 em
        exact q .non F' H' g1 g2 g3 .non
    | bk => cases e
    | ct => cases e
end
end Ew

/-! EwApp: calls of defs; changes of what a name owns. -/
namespace Ew
open PySem L2

theorem GrowM.of_upd {F : Addr → Prop} {H : Hp} {a : Addr} {o : HO} : GrowM a F H F (upd H a o) := ⟨fun _ h => h, fun _ h => .inl h, fun x u h e => by rw [upd_ne h]; exact e⟩
/-- a slot that owns, with other contents -/
def Sl.redo : Sl → D → Option Sl
  | .ow _, d => some (.ow d)
  | .mp _, d => some (.mp d)
  | _, _ => none
section
variable {K : PySem.W.Frag} {a0 a : Addr} {F F' : Addr → Prop} {H H' : Hp} {σ : St} {env : En} {i : Nat} {s s' : Sl} {d d1 : D}
theorem Rel.addr (R : Rel K a0 F H σ env) (e : env[i]? = some s) (w : s.isOw = true) (hv : s.val? = some d) : ∃ a, σ[i]? = some (some (.ref a)) ∧ ¬ F a ∧ Bd K F H a d := by
  cases s with
  | un => cases w
  | fz d => cases w
  | ow d' => cases hv; exact R.ow i _ e
  | mp d' => cases hv; obtain ⟨h1, h2, h3⟩ := R.mp i _ e; exact ⟨a0, h1, h2, h3⟩
theorem redo_isOw (h : s.redo d1 = some s') : s.isOw = true ∧ s'.isOw = true ∧ s'.val? = some d1 := by
  match s, h with
  | .ow _, h => cases h; exact ⟨rfl, rfl, rfl⟩
  | .mp _, h => cases h; exact ⟨rfl, rfl, rfl⟩
theorem Rel.modify (R : Rel K a0 F H σ env) (e : env[i]? = some s) (hr : s.redo d1 = some s') (ha : σ[i]? = some (some (.ref a))) (nf0 : ¬ F a) (hm : Mut (H a)) (G : GrowM a F H F' H') (b : Bd K F' H' a d1) (nf : ¬ F' a) :
    Rel K a0 F' H' σ (env.set i s') ∧ Stp F H σ env F' H' σ (env.set i s') ∧ ∀ x, Owned σ (env.set i s') x → Owned σ env x := by
  obtain ⟨w, w', _⟩ := redo_isOw hr
  have hil : i < env.length := (List.getElem?_eq_some_iff.mp e).1
  have oi : OwAt env i := ⟨s, e, w⟩
  have hk : ∀ x o, H x = some o → (F x ∨ ¬ Mut (some o)) → H' x = some o := fun x o h h2 => G.keep x o (fun z => by
    subst z
    rcases h2 with h2 | h2
    · exact nf0 h2
    · rw [h] at hm; exact h2 hm) h
  have ow : ∀ j, OwAt (env.set i s') j → OwAt env j := fun j ⟨t, q, v⟩ => by
    by_cases hj : i = j
    · subst hj; exact oi
    · rw [List.getElem?_set_ne hj] at q
      exact ⟨t, q, v⟩
  have dom : ∀ x, H x ≠ none → H' x ≠ none := fun x h => by
    by_cases z : x = a
    · subst z; exact b.ne
    · cases q : H x with
      | none => exact absurd q h
      | some o => rw [G.keep x o z q]; exact fun z => nomatch z
  refine ⟨⟨by simpa using R.len, fun x h => ?_, fun j d' q => ?_, fun j d' q => ?_, fun j d' q => ?_, fun j k x hjk v v' => R.ap j k x hjk (ow j v) (ow k v')⟩, ⟨G.sub, fun x h => ?_, fun x o h n => G.keep x o (fun z => n (z ▸ ⟨i, oi, ha⟩)) h, dom, fun x ⟨j, v, q⟩ => .inl ⟨j, ow j v, q⟩⟩, fun x ⟨j, v, q⟩ => ⟨j, ow j v, q⟩⟩
  · rcases G.new x h with y | y
    · exact dom x (R.fd x y)
    · exact y.2
  · by_cases hj : i = j
    · subst hj
      rw [List.getElem?_set_self hil] at q
      cases q; cases w'
    · rw [List.getElem?_set_ne hj] at q
      obtain ⟨v, h1, h2⟩ := R.fz j d' q
      exact ⟨v, h1, h2.mono G.sub hk⟩
  · by_cases hj : i = j
    · subst hj
      rw [List.getElem?_set_self hil] at q
      have q' : s' = .ow d' := Option.some.inj q
      subst q'
      match s, hr with
      | .ow _, hr => cases hr; exact ⟨a, ha, nf, b⟩
      | .mp _, hr => cases hr
    · rw [List.getElem?_set_ne hj] at q
      obtain ⟨x, h1, h2, h3⟩ := R.ow j d' q
      have hx : x ≠ a := fun z => R.ap i j a hj oi ⟨_, q, rfl⟩ ha (z ▸ h1)
      refine ⟨x, h1, fun z => (G.new x z).elim h2 fun y => h3.ne y.1, h3.mono G.sub hk ?_⟩
      cases q2 : H x with
      | none => exact absurd q2 h3.ne
      | some o => exact G.keep x o hx q2
  · by_cases hj : i = j
    · subst hj
      rw [List.getElem?_set_self hil] at q
      have q' : s' = .mp d' := Option.some.inj q
      subst q'
      match s, e, hr with
      | .ow _, _, hr => cases hr
      | .mp d2, e, hr =>
        cases hr
        obtain ⟨h1, _, _⟩ := R.mp i d2 e
        rw [ha] at h1; cases h1
        exact ⟨ha, nf, b⟩
    · rw [List.getElem?_set_ne hj] at q
      obtain ⟨h1, h2, h3⟩ := R.mp j d' q
      have hx : a0 ≠ a := fun z => R.ap i j a hj oi ⟨_, q, rfl⟩ ha (z ▸ h1)
      refine ⟨h1, fun z => (G.new a0 z).elim h2 fun y => h3.ne y.1, h3.mono G.sub hk ?_⟩
      cases q2 : H a0 with
      | none => exact absurd q2 h3.ne
      | some o => exact G.keep a0 o hx q2
  · rcases G.new x h with y | y
    · exact .inl y
    · exact .inr (.inl y.1)
end

/-! ### calls -/
def callP (n : Nat) (G : List D → Option D) (f : Fa) : Fn := fun env => (f env).bind fun x => if x.1.length = n then (G x.1).map fun d => (d, x.2) else none
theorem callP_inv {n : Nat} {G : List D → Option D} {f : Fa} {env env' : En} {d : D} (q : callP n G f env = some (d, env')) : ∃ ds, f env = some (ds, env') ∧ ds.length = n ∧ G ds = some d := by
  obtain ⟨⟨ds, env1⟩, q1, q⟩ := Option.bind_eq_some_iff.mp q
  by_cases hl : ds.length = n
  · rw [if_pos hl] at q
    obtain ⟨d', q2, q⟩ := Option.map_eq_some_iff.mp q
    cases q
    exact ⟨ds, q1, hl, q2⟩
  · rw [if_neg hl] at q; cases q
def callM (n i : Nat) (G : D → List D → Option (D × D)) (f : Fa) : Fn := fun env => (look env i).bind fun _ => (f env).bind fun x => if x.1.length + 1 = n then (x.2[i]?).bind fun s => if s.isOw = true then (s.val?).bind fun d0 => (G d0 x.1).bind fun r => (s.redo r.2).map fun s' => (r.1, x.2.set i s') else none else none
section
variable {X : Cx} {a0 : Addr} {k n : Nat} {f : Addr} {fd : FuncData} {ps : List Str} {x : Str} {p pos : Pos} {e : Expr} {es : List Expr} {g : Fa} {G : List D → Option D} {GM : D → List D → Option (D × D)} {i : Nat} {y : Str} {yp : Pos}
theorem callP_run {fr : Bool} {ts : List TE} {σ : St} {H : Hp} {Q : VK} (h3 : ∀ σ H R, tAF X.K a0 g σ H R → taOf ts σ H R) {F : Addr → Prop} {env env' : En} {d : D} (R : Rel X.K a0 F H σ env) (q : callP n G g env = some (d, env'))
    (k : ∀ v F1 H1 F2 H2, Stp F H σ env F1 H1 σ env' → Rel X.K a0 F1 H1 σ env' → Grow F1 H1 F2 H2 → ResOk X.K fr H1 F2 H2 v d → Q v H2) : taOf ts σ H fun vs H1 => spP X.K fr n G vs H1 Q E0 := by
  obtain ⟨ds, q1, hl, q2⟩ := callP_inv q
  refine h3 σ H _ ⟨F, env, R, ds, env', q1, fun vs F1 H1 S1 R1 z => ?_⟩
  exact ⟨z.length.trans hl, F1, ds, d, z, R1.fd, q2, fun v F2 H2 gr ro => k v F1 H1 F2 H2 S1 R1 gr ro⟩
theorem se_call (Fo : FnG X.prog X.w X.K X.mg X.base k f fd ps (spP X.K false n G)) (hr : Rm k X.A) (hg : Gl X x) (hm : X.mg x = some (.ref f)) (hk : PySem.W.keepIn X.K (.ref f) = true) (hb : Binds X.K fd ps []) (ha : SF X a0 (e :: es) g)
    (hdb : (x == ("__debug__" : Str)) = false := by decide) (he : starEach (e :: es) X.env = (false, eval e X.env) :: starEach es X.env := by rfl) (hpl : (backTo pos (starEach es X.env)).any (·.1) = false := by rfl) :
    SE X a0 (.Call (.Name x p) (e :: es) [] pos) (callP n G g) := by
  obtain ⟨ts, _, h2, h3⟩ := ha.ex
  exact ⟨PEimp (pe_callG Fo hr hg hm hk hb h2 hdb he hpl) fun σ H Q ⟨F, env, R, d, env', q, kk⟩ => callP_run h3 R q fun v F1 H1 F2 H2 S1 R1 gr ro => kk v F2 H2 (S1.trans gr.stp) (gr.rel R1) ro⟩
theorem so_call (Fo : FnG X.prog X.w X.K X.mg X.base k f fd ps (spP X.K true n G)) (hr : Rm k X.A) (hg : Gl X x) (hm : X.mg x = some (.ref f)) (hk : PySem.W.keepIn X.K (.ref f) = true) (hb : Binds X.K fd ps []) (ha : SF X a0 (e :: es) g)
    (hdb : (x == ("__debug__" : Str)) = false := by decide) (he : starEach (e :: es) X.env = (false, eval e X.env) :: starEach es X.env := by rfl) (hpl : (backTo pos (starEach es X.env)).any (·.1) = false := by rfl) :
    SO X a0 (.Call (.Name x p) (e :: es) [] pos) (callP n G g) := by
  obtain ⟨ts, _, h2, h3⟩ := ha.ex
  exact ⟨PEimp (pe_callG Fo hr hg hm hk hb h2 hdb he hpl) fun σ H Q ⟨F, env, R, d, env', q, kk⟩ => callP_run h3 R q fun v F1 H1 F2 H2 S1 R1 gr ⟨p, e1, e2, e3, e4⟩ => by
    subst e1
    exact kk p F2 H2 (S1.trans gr.stp) (gr.rel R1) (S1.new_of e2) e3 (fun w => (R1.owned w).2.2 e2) e4⟩
theorem callM_run {fr : Bool} {ts : List TE} {σ : St} {H : Hp} {Q : VK} (h3 : ∀ σ H R, tAF X.K a0 g σ H R → taOf ts σ H R) {F : Addr → Prop} {env env' : En} {d : D} (R : Rel X.K a0 F H σ env) (q : callM n i GM g env = some (d, env'))
    (kk : ∀ v H1 F2 H2, Stp F H σ env F2 H2 σ env' → Rel X.K a0 F2 H2 σ env' → (∀ a, H a ≠ none → H1 a ≠ none) → (∀ p, H1 p = none → ¬ Owned σ env' p) → ResOk X.K fr H1 F2 H2 v d → Q v H2) : taOf (tVar i :: ts) σ H fun vs H1 => spM X.K fr n GM vs H1 Q E0 := by
  unfold callM at q
  obtain ⟨d00, q0, q⟩ := Option.bind_eq_some_iff.mp q
  obtain ⟨⟨ds, env1⟩, q1, q⟩ := Option.bind_eq_some_iff.mp q
  by_cases hl : ds.length + 1 = n
  · rw [if_pos hl] at q
    obtain ⟨s, q2, q⟩ := Option.bind_eq_some_iff.mp q
    by_cases hw : s.isOw = true
    · rw [if_pos hw] at q
      obtain ⟨d0, q3, q⟩ := Option.bind_eq_some_iff.mp q
      obtain ⟨⟨r, d1⟩, q4, q⟩ := Option.bind_eq_some_iff.mp q
      obtain ⟨s', q5, q⟩ := Option.map_eq_some_iff.mp q
      cases q
      obtain ⟨v0, hv0, _⟩ := R.look q0
      refine ⟨v0, hv0, h3 σ H _ ⟨F, env, R, ds, env1, q1, fun vs F1 H1 S1 R1 z => ?_⟩⟩
      obtain ⟨a, ha, nf, b⟩ := R1.addr q2 hw q3
      rw [hv0] at ha; cases ha
      refine ⟨by rw [List.length_cons, z.length]; exact hl, F1, a, vs, d0, ds, r, d1, rfl, b, nf, z, R1.fd, q4, fun v F2 H2 gr b2 nf2 ro => ?_⟩
      obtain ⟨R2, S2, O2⟩ := R1.modify q2 q5 hv0 nf b.mut gr b2 nf2
      exact kk v H1 F2 H2 (S1.trans S2) R2 S1.dom (fun p hp w => (R1.owned (O2 p w)).2.2 hp) ro
    · rw [if_neg hw] at q; cases q
  · rw [if_neg hl] at q; cases q
theorem se_callM (Fo : FnG X.prog X.w X.K X.mg X.base k f fd ps (spM X.K false n GM)) (hr : Rm k X.A) (hg : Gl X x) (hm : X.mg x = some (.ref f)) (hk : PySem.W.keepIn X.K (.ref f) = true) (hb : Binds X.K fd ps []) (hN : X.N[i]? = some y) (hv : Vis X.env.scope y) (ha : SF X a0 es g)
    (hdb : (x == ("__debug__" : Str)) = false := by decide) (he : starEach (.Name y yp :: es) X.env = (false, eval (.Name y yp) X.env) :: starEach es X.env := by rfl) (hpl : (backTo pos (starEach es X.env)).any (·.1) = false := by rfl) (hd : (y == ("__debug__" : Str)) = false := by decide) (hcd : (y == ("__classdict__" : Str)) = false := by decide) :
    SE X a0 (.Call (.Name x p) (.Name y yp :: es) [] pos) (callM n i GM g) := by
  obtain ⟨ts, _, h2, h3⟩ := ha.ex
  exact ⟨PEimp (pe_callG Fo hr hg hm hk hb (pa_cons (pe_var hN hv hd hcd) h2 he) hdb he hpl) fun σ H Q ⟨F, env, R, d, env', q, kk⟩ => callM_run h3 R q fun v H1 F2 H2 S2 R2 _ _ ro => kk v F2 H2 S2 R2 ro⟩
theorem so_callM (Fo : FnG X.prog X.w X.K X.mg X.base k f fd ps (spM X.K true n GM)) (hr : Rm k X.A) (hg : Gl X x) (hm : X.mg x = some (.ref f)) (hk : PySem.W.keepIn X.K (.ref f) = true) (hb : Binds X.K fd ps []) (hN : X.N[i]? = some y) (hv : Vis X.env.scope y) (ha : SF X a0 es g)
    (hdb : (x == ("__debug__" : Str)) = false := by decide) (he : starEach (.Name y yp :: es) X.env = (false, eval (.Name y yp) X.env) :: starEach es X.env := by rfl) (hpl : (backTo pos (starEach es X.env)).any (·.1) = false := by rfl) (hd : (y == ("__debug__" : Str)) = false := by decide) (hcd : (y == ("__classdict__" : Str)) = false := by decide) :
    SO X a0 (.Call (.Name x p) (.Name y yp :: es) [] pos) (callM n i GM g) := by
  obtain ⟨ts, _, h2, h3⟩ := ha.ex
  refine ⟨PEimp (pe_callG Fo hr hg hm hk hb (pa_cons (pe_var hN hv hd hcd) h2 he) hdb he hpl) fun σ H Q ⟨F, env, R, d, env', q, kk⟩ => callM_run h3 R q fun v H1 F2 H2 S2 R2 dm no ⟨p, e1, e2, e3, e4⟩ => ?_⟩
  subst e1
  refine kk p F2 H2 S2 R2 ?_ e3 (no p e2) e4
  cases e : H p with
  | none => rfl
  | some o => exact absurd e2 (dm p (by rw [e]; exact fun z => nomatch z))

/-! ### f(k = e, ..): keywords alone -/
inductive PKs (X : Cx) : List Keyword → List TE → Prop
  | nil : PKs X [] []
  | cons {nm : Option Str} {e : Expr} {kp : Pos} {kws : List Keyword} {t : TE} {ts : List TE} : PE X e t → PKs X kws ts → PKs X (⟨nm, e, kp⟩ :: kws) (t :: ts)
theorem PKs.pk {kws : List Keyword} {ts : List TE} (h : PKs X kws ts) : PK X kws (taOf ts) := by
  induction h with
  | nil => exact pk_nil
  | cons h _ ih => exact pk_cons h ih
structure SK (X : Cx) (a0 : Addr) (kws : List Keyword) (f : Fa) : Prop where
  ex : ∃ ts, PKs X kws ts ∧ ∀ σ H R, tAF X.K a0 f σ H R → taOf ts σ H R
theorem sk_nil : SK X a0 [] nilA := ⟨[], .nil, fun σ H R ⟨F, env, rel, ds, env', e, k⟩ => by cases e; exact k [] F H Stp.refl rel .nil⟩
theorem sk_cons {nm : Option Str} {kp : Pos} {kws : List Keyword} {h : Fn} {g : Fa} (he : SE X a0 e h) (hr : SK X a0 kws g) : SK X a0 (⟨nm, e, kp⟩ :: kws) (consA h g) := by
  obtain ⟨ts, h1, h3⟩ := hr.ex
  refine ⟨_ :: ts, .cons he.run h1, fun σ H R ⟨F, env, rel, ds, env', q, k⟩ => ?_⟩
  obtain ⟨⟨d, env1⟩, q1, q⟩ := Option.bind_eq_some_iff.mp q
  obtain ⟨⟨ds', env2⟩, q2, q⟩ := Option.bind_eq_some_iff.mp q
  cases q
  refine ⟨F, env, rel, d, env1, q1, fun v F1 H1 S1 R1 z1 => h3 σ H1 _ ⟨F1, env1, R1, ds', env2, q2, fun vs F2 H2 S2 R2 z2 => ?_⟩⟩
  exact k _ F2 H2 (S1.trans S2) R2 (.cons (S2.fz R1 z1) z2)
variable {ks : List Str} {kws : List Keyword} {gq : List Value → List Value → List Value} {gV : List V → List V → List V} {sp : Sp} {tk : TA}
def callK (n m : Nat) (pm : List D → List D) (G : List D → Option D) (f : Fa) : Fn := fun env => (f env).bind fun x => if x.1.length = m ∧ (pm x.1).length = n then (G (pm x.1)).map fun d => (d, x.2) else none
theorem callK_inv {n m : Nat} {pm : List D → List D} {G : List D → Option D} {f : Fa} {env env' : En} {d : D} (q : callK n m pm G f env = some (d, env')) : ∃ ds, f env = some (ds, env') ∧ ds.length = m ∧ (pm ds).length = n ∧ G (pm ds) = some d := by
  obtain ⟨⟨ds, env1⟩, q1, q⟩ := Option.bind_eq_some_iff.mp q
  by_cases hl : ds.length = m ∧ (pm ds).length = n
  · rw [if_pos hl] at q
    obtain ⟨d', q2, q⟩ := Option.map_eq_some_iff.mp q
    cases q
    exact ⟨ds, q1, hl.1, hl.2, q2⟩
  · rw [if_neg hl] at q; cases q
theorem callK_run {fr : Bool} {ts : List TE} {m : Nat} {pm : List D → List D} {pV : List V → List V} {σ : St} {H : Hp} {Q : VK} (hp : ∀ {K F H vs ds}, FzAll K F H vs ds → FzAll K F H (pV vs) (pm ds)) (h3 : ∀ σ H R, tAF X.K a0 g σ H R → taOf ts σ H R) {F : Addr → Prop} {env env' : En} {d : D} (R : Rel X.K a0 F H σ env) (q : callK n m pm G g env = some (d, env'))
    (k : ∀ v F1 H1 F2 H2, Stp F H σ env F1 H1 σ env' → Rel X.K a0 F1 H1 σ env' → Grow F1 H1 F2 H2 → ResOk X.K fr H1 F2 H2 v d → Q v H2) : taOf ts σ H fun zs H1 => zs.length = m ∧ spP X.K fr n G (pV zs) H1 Q E0 := by
  obtain ⟨ds, q1, hl, hl2, q2⟩ := callK_inv q
  refine h3 σ H _ ⟨F, env, R, ds, env', q1, fun vs F1 H1 S1 R1 z => ⟨z.length.trans hl, (hp z).length.trans hl2, F1, pm ds, d, hp z, R1.fd, q2, fun v F2 H2 gr ro => k v F1 H1 F2 H2 S1 R1 gr ro⟩⟩
theorem se_callK {m : Nat} {pm : List D → List D} {pV : List V → List V} (hp : ∀ {K F H vs ds}, FzAll K F H vs ds → FzAll K F H (pV vs) (pm ds)) (Fo : FnG X.prog X.w X.K X.mg X.base k f fd ps (spP X.K false n G)) (hr : Rm k X.A) (hg : Gl X x) (hm : X.mg x = some (.ref f)) (hk : PySem.W.keepIn X.K (.ref f) = true) (hb : KBn X.K fd ps 0 ks gq fun _ zs => pV zs) (hkn : ks.length = m)
    (ha : SK X a0 kws g) (hall : (backToKw pos (keywordEach kws X.env)).all (·.1.isSome) = true := by rfl) (hks : (backToKw pos (keywordEach kws X.env)).filterMap (·.1) = ks := by rfl)
    (hdb : (x == ("__debug__" : Str)) = false := by decide) (hpl : ((backTo pos (starEach [] X.env)).any (·.1) || (backToKw pos (keywordEach kws X.env)).any (·.1.isNone)) = false := by rfl) : SE X a0 (.Call (.Name x p) [] kws pos) (callK n m pm G g) := by
  obtain ⟨ts, h1, h3⟩ := ha.ex
  subst hkn
  exact ⟨PEimp (pe_callGK Fo hr hg hm hk hb h1.pk hall hks hdb hpl) fun σ H Q ⟨F, env, R, d, env', q, kk⟩ => callK_run hp h3 R q fun v F1 H1 F2 H2 S1 R1 gr ro => kk v F2 H2 (S1.trans gr.stp) (gr.rel R1) ro⟩
theorem so_callK {m : Nat} {pm : List D → List D} {pV : List V → List V} (hp : ∀ {K F H vs ds}, FzAll K F H vs ds → FzAll K F H (pV vs) (pm ds)) (Fo : FnG X.prog X.w X.K X.mg X.base k f fd ps (spP X.K true n G)) (hr : Rm k X.A) (hg : Gl X x) (hm : X.mg x = some (.ref f)) (hk : PySem.W.keepIn X.K (.ref f) = true) (hb : KBn X.K fd ps 0 ks gq fun _ zs => pV zs) (hkn : ks.length = m)
    (ha : SK X a0 kws g) (hall : (backToKw pos (keywordEach kws X.env)).all (·.1.isSome) = true := by rfl) (hks : (backToKw pos (keywordEach kws X.env)).filterMap (·.1) = ks := by rfl)
    (hdb : (x == ("__debug__" : Str)) = false := by decide) (hpl : ((backTo pos (starEach [] X.env)).any (·.1) || (backToKw pos (keywordEach kws X.env)).any (·.1.isNone)) = false := by rfl) : SO X a0 (.Call (.Name x p) [] kws pos) (callK n m pm G g) := by
  obtain ⟨ts, h1, h3⟩ := ha.ex
  subst hkn
  exact ⟨PEimp (pe_callGK Fo hr hg hm hk hb h1.pk hall hks hdb hpl) fun σ H Q ⟨F, env, R, d, env', q, kk⟩ => callK_run hp h3 R q fun v F1 H1 F2 H2 S1 R1 gr ⟨p, e1, e2, e3, e4⟩ => by
    subst e1
    exact kk p F2 H2 (S1.trans gr.stp) (gr.rel R1) (S1.new_of e2) e3 (fun w => (R1.owned w).2.2 e2) e4⟩
/-- some of a list, in another sequence -/
def pick {α : Type} (is : List Nat) (xs : List α) : List α := is.filterMap fun i => xs[i]?
theorem pick_fz {K F H} {vs : List V} {ds : List D} (h : FzAll K F H vs ds) : ∀ is : List Nat, FzAll K F H (pick is vs) (pick is ds)
  | [] => .nil
  | i :: is => by
    unfold pick
    rw [List.filterMap_cons, List.filterMap_cons]
    cases e : ds[i]? with
    | none =>
      have : vs[i]? = none := by
        rw [List.getElem?_eq_none_iff] at e ⊢
        rw [h.length]; exact e
      rw [this]
      exact pick_fz h is
    | some d =>
      obtain ⟨v, h1, h2⟩ := h.get e
      rw [h1]
      exact .cons h2 (pick_fz h is)
theorem pick_vals {vs : List V} {us : List Value} (h : Vals vs us) : ∀ is : List Nat, Vals (pick is vs) (pick is us)
  | [] => .nil
  | i :: is => by
    unfold pick
    rw [List.filterMap_cons, List.filterMap_cons]
    cases e : vs[i]? with
    | none =>
      have : us[i]? = none := by
        rw [List.getElem?_eq_none_iff] at e ⊢
        rw [← h.length]; exact e
      rw [this]
      exact pick_vals h is
    | some d =>
      obtain ⟨v, h1, h2⟩ := h.get e
      rw [h1]
      exact .cons h2 (pick_vals h is)
/-- how keywords alone bind -/
theorem kbn0 {K : PySem.W.Frag} {qual : Str} {params : Arguments} {bdy : List Stmt} {scope : Scope} {ps ks : List Str} (is : List Nat) (Fu : FunD K x qual params bdy scope [] [] f fd)
    (h : ∀ (kV doc pm : Value) (an : Option Addr) (cdv ct : Value) (ws : List Value), ws.length = ks.length → bindArgs (PySem.W.fnOf x qual params bdy scope .none kV doc pm an cdv ct) ⟨[], ks.zip ws⟩ = pure (ps.zip (pick is ws))) : KBn K fd ps 0 ks (fun _ ws => pick is ws) fun _ zs => pick is zs := by
  obtain ⟨oc, od, dV, kV, doc, pm, an, cdv, ct, osl, rfl, lk, hcd, hD, hK⟩ := Fu.ex
  rcases hD with ⟨_, rfl⟩ | ⟨e, _⟩
  · refine ⟨fun s us ws _ l1 l2 => ?_, fun _ r => pick_vals r is⟩
    have e : us = [] := List.eq_nil_of_length_eq_zero l1
    subst e
    exact BindsTo.of_eq (h kV doc pm an cdv ct ws l2)
  · exact absurd rfl e
end
/-! ### a new object as the first argument of a def that changes it -/
theorem Rel.other {K : PySem.W.Frag} {a0 a : Addr} {F F' : Addr → Prop} {H H' : Hp} {σ : St} {env : En} (R : Rel K a0 F H σ env) (nf : ¬ F a) (no : ¬ Owned σ env a) (hm : Mut (H a)) (hn : H' a ≠ none) (G : GrowM a F H F' H') {F0 : Addr → Prop} {H0 : Hp} {env0 : En} (S : Stp F0 H0 σ env0 F H σ env) (hp : H0 a = none) : Rel K a0 F' H' σ env ∧ Stp F0 H0 σ env0 F' H' σ env := by
  have hk : ∀ b o, H b = some o → (F b ∨ ¬ Mut (some o)) → H' b = some o := fun b o e h => G.keep b o (fun z => by
    subst z
    rcases h with h | h
    · exact nf h
    · rw [e] at hm; exact h hm) e
  have dom : ∀ b, H b ≠ none → H' b ≠ none := fun b h => by
    by_cases z : b = a
    · subst z; exact hn
    · cases e : H b with
      | none => exact absurd e h
      | some o => rw [G.keep b o z e]; exact fun w => nomatch w
  have kp : ∀ b d, b ≠ a → Bd K F H b d → ¬ F b → ¬ F' b ∧ Bd K F' H' b d := fun b d hb z nfb => by
    refine ⟨fun w => (G.new b w).elim nfb fun q => z.ne q.1, z.mono G.sub hk ?_⟩
    cases e : H b with
    | none => exact absurd e z.ne
    | some o => exact G.keep b o hb e
  refine ⟨⟨R.len, fun b h => ?_, fun i d e => ?_, fun i d e => ?_, fun i d e => ?_, R.ap⟩, ⟨fun b h => G.sub b (S.sub b h), fun b h => ?_, fun b o e n => ?_, fun b h => dom b (S.dom b h), S.own⟩⟩
  · rcases G.new b h with z | z
    · exact dom b (R.fd b z)
    · exact z.2
  · obtain ⟨v, h1, h2⟩ := R.fz i d e
    exact ⟨v, h1, h2.mono G.sub hk⟩
  · obtain ⟨b, h1, h2, h3⟩ := R.ow i d e
    obtain ⟨q1, q2⟩ := kp b d (fun z => no ⟨i, ⟨_, e, rfl⟩, z ▸ h1⟩) h3 h2
    exact ⟨b, h1, q1, q2⟩
  · obtain ⟨h1, h2, h3⟩ := R.mp i d e
    obtain ⟨q1, q2⟩ := kp a0 d (fun z => no ⟨i, ⟨_, e, rfl⟩, z ▸ h1⟩) h3 h2
    exact ⟨h1, q1, q2⟩
  · rcases G.new b h with z | z
    · exact S.new b z
    · exact .inr (.inl (S.new_of z.1))
  · exact G.keep b o (fun z => by subst z; rw [hp] at e; cases e) (S.keep b o e n)
/-- f(new object, e, ..) of a def that changes its first argument -/
def callN (n : Nat) (G : D → List D → Option (D × D)) (f0 : Fn) (f : Fa) : Fn := fun env => (f0 env).bind fun x0 => (f x0.2).bind fun x => if x.1.length + 1 = n then (G x0.1 x.1).map fun r => (r.1, x.2) else none
section
variable {X : Cx} {a0 : Addr} {k n : Nat} {f : Addr} {fd : FuncData} {ps : List Str} {x : Str} {p pos : Pos} {e : Expr} {es : List Expr} {g : Fa} {f0 : Fn} {GM : D → List D → Option (D × D)}
theorem se_callN (Fo : FnG X.prog X.w X.K X.mg X.base k f fd ps (spM X.K false n GM)) (hr : Rm k X.A) (hg : Gl X x) (hm : X.mg x = some (.ref f)) (hk : PySem.W.keepIn X.K (.ref f) = true) (hb : Binds X.K fd ps []) (h0 : SO X a0 e f0) (ha : SF X a0 es g)
    (hdb : (x == ("__debug__" : Str)) = false := by decide) (he : starEach (e :: es) X.env = (false, eval e X.env) :: starEach es X.env := by rfl) (hpl : (backTo pos (starEach es X.env)).any (·.1) = false := by rfl) :
    SE X a0 (.Call (.Name x p) (e :: es) [] pos) (callN n GM f0 g) := by
  obtain ⟨ts, _, h2, h3⟩ := ha.ex
  refine ⟨PEimp (pe_callG Fo hr hg hm hk hb (pa_cons h0.run h2 he) hdb he hpl) fun σ H Q ⟨F, env, R, d, env', q, kk⟩ => ?_⟩
  obtain ⟨⟨d0, env1⟩, q1, q⟩ := Option.bind_eq_some_iff.mp q
  obtain ⟨⟨ds, env2⟩, q2, q⟩ := Option.bind_eq_some_iff.mp q
  by_cases hl : ds.length + 1 = n
  · rw [if_pos hl] at q
    obtain ⟨⟨r, d1⟩, q3, q⟩ := Option.map_eq_some_iff.mp q
    cases q
    refine ⟨F, env, R, d0, env1, q1, fun a F1 H1 S1 R1 hp nf no b => h3 σ H1 _ ⟨F1, env1, R1, ds, _, q2, fun vs F2 H2 S2 R2 z => ?_⟩⟩
    have eH : H2 a = H1 a := by
      cases e : H1 a with
      | none => exact absurd e b.ne
      | some o => exact S2.keep a o e no
    have b2 : Bd X.K F2 H2 a d0 := b.mono S2.sub (S2.hk R1) eH
    have nf2 : ¬ F2 a := fun w => by
      rcases S2.new a w with y | y | y
      · exact nf y
      · exact b.ne y
      · exact no y
    have no2 : ¬ Owned σ env2 a := fun w => (S2.own a w).elim no b.ne
    refine ⟨by rw [List.length_cons, z.length]; exact hl, F2, a, vs, d0, ds, _, d1, rfl, b2, nf2, z, R2.fd, q3, fun v F3 H3 gr b3 nf3 ro => ?_⟩
    obtain ⟨R3, S3⟩ := R2.other nf2 no2 b2.mut b3.ne gr (S1.trans S2) hp
    exact kk v F3 H3 S3 R3 ro
  · rw [if_neg hl] at q; cases q
end
end Ew

/-! EwOps: operators on data. -/
namespace Ew
open PySem L2

/-! ### what a value is, by its data -/
/-- a list that is read -/
def LsAt (K : PySem.W.Frag) (H : Hp) (a : Addr) (xs : List V) : Prop := H a = some (.lst xs) ∨ Cl K H a xs
section
variable {K : PySem.W.Frag} {F : Addr → Prop} {H : Hp} {v : V} {ds : List D}
theorem Cl.sq {a : Addr} {xs : List V} (h : Cl K H a xs) : SqL K H a xs := by
  rcases h with ⟨o, h⟩ | ⟨its, n, h1, h2, h3⟩
  · exact .inl (.inr ⟨o, h⟩)
  · exact .inr ⟨_, its.toArray, n, h1, rfl, rfl, rfl, by rw [List.size_toArray, ← h2.length]; exact h3, by simpa using h2⟩
theorem LsAt.sq {a : Addr} {xs : List V} (h : LsAt K H a xs) : SqL K H a xs := h.elim (fun e => .inl (.inl e)) Cl.sq
theorem Br.non (h : Br K F H v .none) : v = .non := by
  rcases h with h | ⟨a, _, h⟩
  · cases h; rfl
  · cases h
theorem Br.bl {b : Bool} (h : Br K F H v (.bool b)) : v = .bl b := by
  rcases h with h | ⟨a, _, h⟩
  · cases h; rfl
  · cases h
theorem Br.int {i : Int} (h : Br K F H v (.int i)) : v = .int i := by
  rcases h with h | ⟨a, _, h⟩
  · cases h; rfl
  · cases h
theorem Br.str {i : Str} (h : Br K F H v (.str i)) : v = .str i := by
  rcases h with h | ⟨a, _, h⟩
  · cases h; rfl
  · cases h
theorem Br.list (h : Br K F H v (.list ds)) : ∃ p xs, v = .ref p ∧ LsAt K H p xs ∧ FzAll K F H xs ds := by
  rcases h with h | ⟨a, rfl, h⟩
  · cases h with
    | lst h _ z => exact ⟨_, _, rfl, .inl h, z⟩
    | scr h z => exact ⟨_, _, rfl, .inr h, z⟩
  · cases h with
    | lst h z => exact ⟨_, _, rfl, .inl h, z⟩
theorem Br.tup (h : Br K F H v (.tuple ds)) : ∃ p xs, v = .ref p ∧ SqT K H p xs ∧ FzAll K F H xs ds := by
  rcases h with h | ⟨a, rfl, h⟩
  · cases h with
    | tup h z => exact ⟨_, _, rfl, h, z⟩
  · cases h
theorem Br.dict {ds : List (D × D)} (h : Br K F H v (.dict ds)) : ∃ p kvs, v = .ref p ∧ H p = some (.dK kvs) ∧ FzKv K F H kvs ds := by
  rcases h with h | ⟨a, rfl, h⟩
  · cases h with
    | dic h _ z => exact ⟨_, _, rfl, h, z⟩
  · cases h with
    | dic h z => exact ⟨_, _, rfl, h, z⟩
/-- where a tuple's data is asked for, it is frozen -/
theorem Br.tupFz (h : Br K F H v (.tuple ds)) : Fz K F H v (.tuple ds) := by
  rcases h with h | ⟨a, rfl, h⟩
  · exact h
  · cases h
/-! data without dicts, as the library reads it -/
mutual
theorem Fz.dp : ∀ {d : D} {v : V}, Fz K F H v d → d.canLay0 = true → Dp K H v d
  | .none, _, h, _ => by cases h; exact .non
  | .bool b, _, h, _ => by cases h; exact .bl b
  | .int i, _, h, _ => by cases h; exact .int i
  | .str x, _, h, _ => by cases h; exact .str x
  | .list ds, _, h, c => by
    have c' : PyData.canLayAll0 ds = true := by simpa [PyData.canLay0] using c
    cases h with
    | lst h _ z => exact .lst (.inl (.inl h)) (FzAll.dp z c')
    | scr h z => exact .lst h.sq (FzAll.dp z c')
  | .tuple ds, _, h, c => by
    have c' : PyData.canLayAll0 ds = true := by simpa [PyData.canLay0] using c
    cases h with
    | tup h z => exact .tup h (FzAll.dp z c')
  | .dict _, _, _, c => by simp [PyData.canLay0] at c
theorem FzAll.dp : ∀ {ds : List D} {vs : List V}, FzAll K F H vs ds → PyData.canLayAll0 ds = true → DpAll K H vs ds
  | [], _, h, _ => by cases h; exact .nil
  | d :: ds, _, h, c => by
    have c' : d.canLay0 = true ∧ PyData.canLayAll0 ds = true := by simpa [PyData.canLayAll0] using c
    cases h with
    | cons h t => exact .cons (Fz.dp h c'.1) (FzAll.dp t c'.2)
end
theorem Br.dp {d : D} (h : Br K F H v d) (c : d.canLay0 = true) : Dp K H v d := by
  rcases h with h | ⟨a, rfl, h⟩
  · exact h.dp c
  · cases h with
    | lst h z => exact .lst (.inl (.inl h)) (FzAll.dp z (by simpa [PyData.canLay0] using c))
    | dic h z => simp [PyData.canLay0] at c
end
theorem lsAt_get {X : Cx} {pins : List (Addr × Obj)} {σ : St} {H : Hp} {s : Shared} {a : Addr} {xs : List V} (I : Inv X pins σ H s) (h : LsAt X.K H a xs) :
    ∃ (its : List Value) (n : Nat), Vals xs its ∧ s.heap.get? a = some { cls := .type "list", data := .seq its.toArray n } ∧ xs.length ≤ sizeLine := by
  rcases h with h | ⟨o, h⟩ | ⟨its, n, h1, h2, h3⟩
  · exact I.lst h
  · obtain ⟨_, z, its, n, r, e⟩ := (show ObjOk X.prog X.w H s.heap a (.frz o (.lst xs)) from I.hok a _ h)
    exact ⟨its, n, r, e, z⟩
  · exact ⟨its, n, h2, I.kIn a _ h1, h3⟩

/-! ### what follows -/
/-- a frozen result with this data -/
abbrev KP (K : PySem.W.Frag) (F : Addr → Prop) (H : Hp) (Q : VK) (d : D) : Prop := ∀ v F' H', Grow F H F' H' → Fz K F' H' v d → Q v H'
/-- a new object with this data, nobody's yet -/
abbrev KO (K : PySem.W.Frag) (F : Addr → Prop) (H : Hp) (Q : VK) (d : D) : Prop := ∀ p F' H', Grow F H F' H' → H p = none → ¬ F' p → Bd K F' H' p d → Q (.ref p) H'
section
variable {K : PySem.W.Frag} {F : Addr → Prop} {H : Hp} {Q : VK} {d : D} {v : V} {xs : List V} {ds : List D} {p : Addr}
theorem KP.fz (k : KP K F H Q d) (z : Fz K F H v d) : Q v H := k v F H Grow.refl z
theorem KP.tup (k : KP K F H Q (.tuple ds)) (z : FzAll K F H xs ds) (hp : H p = none) : Q (.ref p) (upd H p (.tup xs)) := k _ F _ (Grow.new1 hp) (.tup (SqT.of upd_same) ((Grow.new1 hp).fzAll z))
theorem KP.lst (k : KP K F H Q (.list ds)) (z : FzAll K F H xs ds) (hp : H p = none) : Q (.ref p) (upd H p (.lst xs)) := k _ _ _ (Grow.newF hp) (.lst upd_same (.inr rfl) ((Grow.newF hp).fzAll z))
theorem KP.ko (k : KP K F H Q d) : KO K F H Q d := fun p F' H' G hp nf b =>
  k (.ref p) (fun a => F' a ∨ a = p) H' ⟨fun a h => .inl (G.sub a h), fun a h => h.elim (G.new a) fun e => .inr (by subst e; exact ⟨hp, b.ne⟩), G.keep⟩ ((b.mono (fun _ h => .inl h) (fun _ _ e _ => e) rfl).fz (.inr rfl))
theorem KO.lst (fd : ∀ a, F a → H a ≠ none) (k : KO K F H Q (.list ds)) (z : FzAll K F H xs ds) (hp : H p = none) : Q (.ref p) (upd H p (.lst xs)) :=
  k p F _ (Grow.new1 hp) hp (fun f => fd p f hp) (.lst upd_same ((Grow.new1 hp).fzAll z))
end

/-! ### operators of two -/
abbrev G2 := D → D → Option D
def orG (g h : G2) : G2 := fun a b => (g a b).or (h a b)
section
variable {X : Cx}
theorem OpR.orP {f : Value → Value → Sem Value} {g h : G2} (a : OpR X f (rP2 X.K g)) (b : OpR X f (rP2 X.K h)) : OpR X f (rP2 X.K (orG g h)) := by
  intro pins s σ H x y v u Q I rx ry ⟨F, da, db, d, fd, hx, hy, q, k⟩
  unfold orG at q
  cases e : g da db with
  | some d' =>
    rw [e] at q
    cases q
    exact a pins s σ H x y v u Q I rx ry ⟨F, da, db, _, fd, hx, hy, e, k⟩
  | none =>
    rw [e] at q
    exact b pins s σ H x y v u Q I rx ry ⟨F, da, db, _, fd, hx, hy, q, k⟩
/-- a new object is a frozen one -/
theorem OpR.ofO {f : Value → Value → Sem Value} {g : G2} (a : OpR X f (rO2 X.K g)) : OpR X f (rP2 X.K g) := by
  intro pins s σ H x y v u Q I rx ry ⟨F, da, db, d, fd, hx, hy, q, k⟩
  exact a pins s σ H x y v u Q I rx ry ⟨F, da, db, d, fd, hx, hy, q, KP.ko k⟩
/-! ints -/
def ii (C : Int → Int → Bool) (f : Int → Int → Int) : G2
  | .int a, .int b => if C a b = true then some (.int (f a b)) else none
  | _, _ => none
def iB (f : Int → Int → Bool) : G2
  | .int a, .int b => some (.bool (f a b))
  | _, _ => none
theorem ii_inv {C : Int → Int → Bool} {f : Int → Int → Int} {x y d : D} (h : ii C f x y = some d) : ∃ a b, x = .int a ∧ y = .int b ∧ C a b = true ∧ d = .int (f a b) := by
  unfold ii at h
  split at h
  · split at h
    · rename_i a b hc
      cases h
      exact ⟨a, b, rfl, rfl, hc, rfl⟩
    · cases h
  · cases h
theorem iB_inv {f : Int → Int → Bool} {x y d : D} (h : iB f x y = some d) : ∃ a b, x = .int a ∧ y = .int b ∧ d = .bool (f a b) := by
  unfold iB at h
  split at h
  · rename_i a b
    cases h
    exact ⟨a, b, rfl, rfl, rfl⟩
  · cases h
theorem op_ii {f : Value → Value → Sem Value} {C : Int → Int → Bool} {P : Int → Int → Prop} {g : Int → Int → Int} (h : OpR X f (rI P fun i j => .int (g i j))) (hc : ∀ i j, C i j = true → P i j) : OpR X f (rP2 X.K (ii C g)) := by
  intro pins s σ H x y v u Q I rx ry ⟨F, da, db, d, fd, hx, hy, q, k⟩
  obtain ⟨a, b, rfl, rfl, c, rfl⟩ := ii_inv q
  rw [hx.int] at rx
  rw [hy.int] at ry
  exact h pins s σ H _ _ v u Q I rx ry ⟨a, b, rfl, rfl, hc _ _ c, KP.fz k (.int _)⟩
theorem op_ii0 {f : Value → Value → Sem Value} {g : Int → Int → Int} (h : OpR X f (rI0 fun i j => .int (g i j))) : OpR X f (rP2 X.K (ii (fun _ _ => true) g)) := by
  intro pins s σ H x y v u Q I rx ry ⟨F, da, db, d, fd, hx, hy, q, k⟩
  obtain ⟨a, b, rfl, rfl, c, rfl⟩ := ii_inv q
  rw [hx.int] at rx
  rw [hy.int] at ry
  exact h pins s σ H _ _ v u Q I rx ry ⟨a, b, rfl, rfl, KP.fz k (.int _)⟩
theorem op_iB {f : Value → Value → Sem Value} {g : Int → Int → Bool} (h : OpR X f (rI0 fun i j => .bl (g i j))) : OpR X f (rP2 X.K (iB g)) := by
  intro pins s σ H x y v u Q I rx ry ⟨F, da, db, d, fd, hx, hy, q, k⟩
  obtain ⟨a, b, rfl, rfl, rfl⟩ := iB_inv q
  rw [hx.int] at rx
  rw [hy.int] at ry
  exact h pins s σ H _ _ v u Q I rx ry ⟨a, b, rfl, rfl, KP.fz k (.bl _)⟩
def okMul (i j : Int) : Bool := decide (-(2 ^ 64) < i ∧ i < 2 ^ 64) || decide (-(2 ^ 64) < j ∧ j < 2 ^ 64)
def okDiv (_ j : Int) : Bool := decide (0 < j ∧ j < 1073741824)
def okMod (_ j : Int) : Bool := decide (0 < j)
def okPow (i j : Int) : Bool := decide (0 ≤ j ∧ j ≤ 1000000 ∧ i.natAbs < 2 ^ 64)
def subI : G2 := ii (fun _ _ => true) (· - ·)
def divI : G2 := ii okDiv (· / ·)
def modI : G2 := ii okMod (· % ·)
def powI : G2 := ii okPow fun i j => i ^ j.toNat
def addI : G2 := ii (fun _ _ => true) (· + ·)
def mulI : G2 := ii okMul (· * ·)
theorem o_sub : OpR X (binaryOp .Sub) (rP2 X.K subI) := op_ii0 op_sub
theorem o_addI : OpR X (binaryOp .Add) (rP2 X.K addI) := op_ii0 op_add
theorem o_mulI : OpR X (binaryOp .Mult) (rP2 X.K mulI) := op_ii op_mul fun i j h => by simpa [okMul, CMul] using h
theorem o_div : OpR X (binaryOp .FloorDiv) (rP2 X.K divI) := op_ii op_fdiv fun i j h => by simpa [okDiv, CDiv] using h
theorem o_mod : OpR X (binaryOp .Mod) (rP2 X.K modI) := op_ii op_mod fun i j h => by simpa [okMod] using h
theorem o_pow : OpR X (binaryOp .Pow) (rP2 X.K powI) := op_ii op_pow fun i j h => by simpa [okPow, CPow] using h
/-! texts, tuples, lists: + -/
def Sz : Nat := 16777216
theorem sz_le {n : Nat} (h : n ≤ Sz) : n ≤ sizeLine := by rw [sizeLine_eq]; exact h
def addS : G2
  | .str a, .str b => if a.length + b.length ≤ Sz then some (.str (a ++ b)) else none
  | _, _ => none
def addT : G2
  | .tuple a, .tuple b => if a.length + b.length ≤ Sz then some (.tuple (a ++ b)) else none
  | _, _ => none
def addL : G2
  | .list a, .list b => if a.length + b.length ≤ Sz then some (.list (a ++ b)) else none
  | _, _ => none
theorem o_addS : OpR X (binaryOp .Add) (rP2 X.K addS) := by
  intro pins s σ H x y v u Q I rx ry ⟨F, da, db, d, fd, hx, hy, q, k⟩
  unfold addS at q
  split at q
  · split at q
    · rename_i a b hz
      cases q
      rw [hx.str] at rx
      rw [hy.str] at ry
      exact op_add_str pins s σ H _ _ v u Q I rx ry ⟨a, b, rfl, rfl, sz_le hz, KP.fz k (.str _)⟩
    · cases q
  · cases q
theorem o_addT : OpR X (binaryOp .Add) (rP2 X.K addT) := by
  intro pins s σ H x y v u Q I rx ry ⟨F, da, db, d, fd, hx, hy, q, k⟩
  unfold addT at q
  split at q
  · split at q
    · rename_i a b hz
      cases q
      obtain ⟨p, xs, rfl, h1, z1⟩ := hx.tup
      obtain ⟨p', ys, rfl, h2, z2⟩ := hy.tup
      have fx := hx.tupFz
      have fy := hy.tupFz
      refine op_catA pins s σ H _ _ v u Q I rx ry ⟨p, p', xs, ys, rfl, rfl, h1, h2, by rw [z1.length, z2.length]; exact sz_le hz, fun e => ?_, fun _ e => ?_, fun _ _ q hq => KP.tup k (z1.append z2) hq⟩
      · subst e
        cases z1
        exact KP.fz k fy
      · subst e
        cases z2
        rw [List.append_nil] at k
        exact KP.fz k fx
    · cases q
  · cases q
theorem o_catL : OpR X (binaryOp .Add) (rO2 X.K addL) := by
  intro pins s σ H x y v u Q I rx ry ⟨F, da, db, d, fd, hx, hy, q, k⟩
  unfold addL at q
  split at q
  · split at q
    · rename_i a b hz
      cases q
      obtain ⟨p, xs, rfl, h1, z1⟩ := hx.list
      obtain ⟨p', ys, rfl, h2, z2⟩ := hy.list
      cases rx
      cases ry
      obtain ⟨its, n, r, e, z⟩ := lsAt_get I h1
      obtain ⟨its2, n2, r2, e2, z'⟩ := lsAt_get I h2
      have l1 := z1.length
      have l2 := z2.length
      have m1 := r.length
      have m2 := r2.length
      refine PySem.P.add_list e e2 ?_ (by rw [List.size_toArray, List.size_toArray]; exact sz_le (by omega))
      have ea : its.toArray ++ its2.toArray = (its ++ its2).toArray := by simp
      rw [ea]
      exact ⟨.ref _, _, I.lnew (t' := s.toks) (r.append r2) (by rw [List.length_append]; exact sz_le (by omega)), rfl, KO.lst fd k (z1.append z2) I.fresh⟩
    · cases q
  · cases q
def addD : G2 := orG addI (orG addS (orG addT addL))
theorem o_add : OpR X (binaryOp .Add) (rP2 X.K addD) := OpR.orP o_addI (OpR.orP o_addS (OpR.orP o_addT (OpR.ofO o_catL)))
end
end Ew

/-! EwOps2: * ; comparisons; in; is; subscripts; slices. -/
namespace Ew
open PySem L2

section
open PySem.Spec PyProof.Rows
theorem tmul_same (l : Addr) (items : Array Value) (n : Nat) (dd : Option Addr) (sl : Array (Option Value)) (x : Int) (u : Tok) (c0 : (decide (x < -(2 ^ 63)) || decide (x ≥ 2 ^ 63)) = false) (c1 : (items.isEmpty || x == 1) = true) :
    Meets (Builtin.«tuple.__mul__» ⟨[.ref l, .int x u], []⟩) (fun _ R s => s.heap.get? l = some { cls := .type "tuple", dict := dd, data := .seq items n, slots := sl } ∧ R (.ok (.ret (Value.ref l))) s) := by
  refine .of_wp fun prog w A R s h => ?_
  obtain ⟨hp, g, d, tk, os⟩ := s
  obtain ⟨hl, h⟩ := h
  have ixf := AutoSeq1.idx_int
  wp_walk using wpAny_loadPart' hl
  repeat (first
    | (refine wpAny_ite_false (decide_eq_false (by rw [c0]; exact Bool.false_ne_true)) ?_; wp_walk using wpAny_loadPart' hl)
    | (refine wpAny_ite_true (decide_eq_true c1) ?_; wp_walk using wpAny_loadPart' hl))
  exact ⟨_, rfl, h⟩
theorem tmul_none (l : Addr) (items : Array Value) (n : Nat) (dd : Option Addr) (sl : Array (Option Value)) (u : Tok) (c1 : items.isEmpty = false) :
    Meets (Builtin.«tuple.__mul__» ⟨[.ref l, .int 0 u], []⟩) (fun _ R s => s.heap.get? l = some { cls := .type "tuple", dict := dd, data := .seq items n, slots := sl } ∧ R (.ok (.ret (Value.ref s.heap.objs.size))) { s with heap := s.heap.push { cls := Value.type "tuple", data := Data.seq #[] } }) := by
  refine .of_wp fun prog w A R s h => ?_
  obtain ⟨hp, g, d, tk, os⟩ := s
  obtain ⟨hl, h⟩ := h
  have ixf := AutoSeq1.idx_int
  have e1 : (items.isEmpty || (0 : Int) == 1) = false := by rw [c1]; rfl
  wp_walk using wpAny_loadPart' hl
  exact ⟨_, rfl, h⟩
end
section
variable {X : Cx}
open PySem.Spec PyProof.Rows in
theorem tmul_run {s : Shared} {Q : Value → Shared → Prop} {l : Addr} {dd : Option Addr} {its : List Value} {n : Nat} {sl : Array (Option Value)} {k : Int} {t : Tok} (ho : s.heap.get? l = some { cls := .type "tuple", dict := dd, data := .seq its.toArray n, slots := sl })
    (h : wpAny (model X.prog X.w) X.A (call (.builtin "tuple.__mul__") [.ref l, .int k t]) Q X.xe s) : wpAny (model X.prog X.w) X.A (binaryOp .Mult (.ref l) (.int k t)) Q X.xe s :=
  wpAny_binaryOp_repeat_ref (T := "tuple") (U := "int") (by decide) ⟨_, ho, rfl⟩ (fun s' => typeIs_int s' k t) noFill_tuple_mul F.fills_int_mul F.slot_int_rmul repeat_tuple F.slot_int_index.lookup
    (call_meets F.slot_int_rmul (typeIs_int s k t) F.entry_int_rmul (F.args_int_rmul_2 _ _) (int_rmul_tuple k t l its.toArray n dd sl) ⟨ho, rfl, ⟨_, ho, rfl⟩, h⟩)
def okRep (n : Nat) (k : Int) : Bool := decide (0 ≤ k ∧ k ≤ 1000 ∧ n ≤ 1000)
def repD (k : Int) (a : List D) : List D := (List.replicate k.toNat a).flatten
def mulT : G2
  | .tuple a, .int k => if okRep a.length k = true then some (.tuple (repD k a)) else none
  | _, _ => none
def mulL : G2
  | .list a, .int k => if okRep a.length k = true then some (.list (repD k a)) else none
  | _, _ => none
def mulS : G2
  | .str a, .int k => if decide (0 ≤ k ∧ k ≤ 1000000 ∧ a.length ≤ 10) = true then some (.str (Txt.mul a k)) else none
  | _, _ => none
theorem FzAll.rep {K F H} {vs : List V} {ds : List D} (h : FzAll K F H vs ds) : ∀ k : Nat, FzAll K F H (List.replicate k vs).flatten (List.replicate k ds).flatten
  | 0 => .nil
  | k + 1 => by
    rw [List.replicate_succ, List.replicate_succ, List.flatten_cons, List.flatten_cons]
    exact h.append (FzAll.rep h k)
open PySem.Spec PyProof.Rows in
theorem o_mulT : OpR X (binaryOp .Mult) (rP2 X.K mulT) := by
  intro pins s σ H x y v u Q I rx ry ⟨FF, da, db, d, fd, hx, hy, q, k⟩
  unfold mulT at q
  split at q
  · split at q
    · rename_i a n hc
      cases q
      have hc' := of_decide_eq_true hc
      obtain ⟨p, xs, rfl, h1, z1⟩ := hx.tup
      have fx := hx.tupFz
      rw [hy.int] at ry
      by_cases h2 : xs ≠ [] ∧ 2 ≤ n
      · have e := hy.int
        subst e
        exact op_repT pins s σ H _ _ v u Q I rx ry ⟨p, n, xs, rfl, rfl, h1, h2.1, h2.2, hc'.2.1, by rw [z1.length]; exact hc'.2.2, fun q hq => KP.tup k (z1.rep _) hq⟩
      · cases rx
        obtain ⟨t, rfl⟩ := ry
        obtain ⟨its, r, ⟨⟨cls, dd, data, sl⟩, ho, hcl, m, hd⟩, hs⟩ := I.tuple h1
        simp only at hcl hd
        subst hcl hd
        have c0 : (decide (n < -(2 ^ 63)) || decide (n ≥ 2 ^ 63)) = false := by
          rw [decide_eq_false (by omega), decide_eq_false (by omega)] <;> rfl
        have hl := r.length
        refine tmul_run ho ?_
        have same : repD n a = a → (its.toArray.isEmpty || n == 1) = true → wpAny (model X.prog X.w) X.A (call (.builtin "tuple.__mul__") [.ref p, .int n t]) (EP X pins σ Q) X.xe s := fun e c =>
          call_meets F.slot_tuple_mul ⟨_, ho, rfl⟩ F.entry_tuple_mul (F.args_tuple_mul_2 _ _) (tmul_same p its.toArray m dd sl n t c0 c) ⟨ho, .ref p, H, I, rfl, KP.fz k (by rw [e]; exact fx)⟩
        by_cases h3 : xs = []
        · subst h3
          cases r
          cases z1
          exact same (by simp [repD]) rfl
        · by_cases h4 : n = 1
          · subst h4
            exact same (by simp [repD]) (by rw [show ((1 : Int) == 1) = true from rfl, Bool.or_true])
          · have h5 : n = 0 := by
              have : ¬ 2 ≤ n := fun z => h2 ⟨h3, z⟩
              omega
            subst h5
            have hi : its.toArray.isEmpty = false := by
              cases its with
              | nil => cases r; exact absurd rfl h3
              | cons _ _ => rfl
            refine call_meets F.slot_tuple_mul ⟨_, ho, rfl⟩ F.entry_tuple_mul (F.args_tuple_mul_2 _ _) (tmul_none p its.toArray m dd sl t hi) ⟨ho, ?_⟩
            refine ⟨.ref s.heap.objs.size, _, I.laid (t' := s.toks) (o := .tup []) (fun b ob q => Heap.get?_push_of_some _ q) (Nat.le_refl _) ⟨Nat.zero_le _, [], .nil, IsTup.new _ _⟩, rfl, KP.tup k .nil (I.hok.fresh (Nat.le_refl _))⟩
    · cases q
  · cases q
open PySem.Spec PyProof.Rows in
theorem o_repL : OpR X (binaryOp .Mult) (rO2 X.K mulL) := by
  intro pins s σ H x y v u Q I rx ry ⟨FF, da, db, d, fd, hx, hy, q, k⟩
  unfold mulL at q
  split at q
  · split at q
    · rename_i a n hc
      cases q
      have hc' := of_decide_eq_true hc
      obtain ⟨p, xs, rfl, h1, z1⟩ := hx.list
      rw [hy.int] at ry
      cases rx
      obtain ⟨t, rfl⟩ := ry
      obtain ⟨its, m, r, e, z⟩ := lsAt_get I h1
      have l1 := z1.length
      have l2 := r.length
      have hb : its.length * n.toNat ≤ 1000 * 1000 := Nat.mul_le_mul (by omega) (by omega)
      have hlen : its.toArray.size * n.toNat ≤ sizeLine := by rw [List.size_toArray, sizeLine_eq]; omega
      have hcap : ¬ its.toArray.size * n.toNat > (2 ^ 63 - 1) / 8 := by rw [List.size_toArray]; omega
      have hfit : ¬ (!Builtin.List.listFitsIndex n) = true := by
        rw [fitsIndex_both (by omega) (by omega)]
        exact Bool.false_ne_true
      have hlong : ¬ Builtin.List.listTooLong (its.toArray.size * n.toNat) = true := by
        rw [notLongL hlen]
        exact Bool.false_ne_true
      have hnew : List.foldl (fun x1 x2 => x1 ++ x2) #[] (List.replicate (if its.toArray.isEmpty = true then 0 else n.toNat) its.toArray) = (List.replicate n.toNat its).flatten.toArray := by
        rw [size_rep]
        cases its with
        | nil => simp
        | cons a r' => rw [if_neg (by simp)]
      refine wpAny_binaryOp_repeat_ref (T := "list") (U := "int") (by decide) ⟨_, e, rfl⟩ (fun s' => typeIs_int s' n t) noFill_list_mul F.fills_int_mul F.slot_int_rmul repeat_list F.slot_int_index.lookup
        (call_meets F.slot_int_rmul (typeIs_int s n t) F.entry_int_rmul (F.args_int_rmul_2 _ _) (int___rmul___int_list n t p its.toArray m)
          ⟨e, rfl, ⟨_, e, rfl⟩, call_meets F.slot_list_mul ⟨_, e, rfl⟩ F.entry_list_mul (F.args_list_mul_2 _ _) (AutoListH.list___mul___list_int_3 p its.toArray m n t hfit hcap hlong) ⟨e, ?_⟩⟩)
      rw [hnew]
      refine ⟨.ref _, _, I.lnew (t' := s.toks) (r.rep n.toNat) ?_, rfl, KO.lst fd k (z1.rep _) I.fresh⟩
      rw [lm_len_rep_flat, sizeLine_eq, l2, Nat.mul_comm]
      omega
    · cases q
  · cases q
theorem o_mulS : OpR X (binaryOp .Mult) (rP2 X.K mulS) := by
  intro pins s σ H x y v u Q I rx ry ⟨F, da, db, d, fd, hx, hy, q, k⟩
  unfold mulS at q
  split at q
  · split at q
    · rename_i a n hc
      cases q
      have hc' := of_decide_eq_true hc
      rw [hx.str] at rx
      rw [hy.int] at ry
      obtain ⟨t, rfl⟩ := rx
      obtain ⟨t', rfl⟩ := ry
      have hb : a.length * n.toNat ≤ 10 * 1000000 := Nat.mul_le_mul (by omega) (by omega)
      refine SB.mul ⟨?_, fun h1 _ => ?_, fun _ _ => ?_⟩ fun t2 k2 => ⟨.str _, H, I.tok _, ⟨_, rfl⟩, KP.fz k (.str _)⟩
      · rw [decide_eq_false (by omega), decide_eq_false (by omega)] <;> rfl
      · have h2 : (10 : Int) ≤ (2 ^ 63 - 1) / n := by
          rw [Int.le_ediv_iff_mul_le (by omega)]
          omega
        omega
      · unfold Builtin.Str.tooLong
        rw [sizeLine_eq]
        exact decide_eq_false (by omega)
    · cases q
  · cases q
def mulD : G2 := orG mulI (orG mulS (orG mulT mulL))
theorem o_mul : OpR X (binaryOp .Mult) (rP2 X.K mulD) := OpR.orP o_mulI (OpR.orP o_mulS (OpR.orP o_mulT (OpR.ofO o_repL)))

/-! ### == != < <= > >= -/
def sB (f : Str → Str → Bool) : G2
  | .str a, .str b => some (.bool (f a b))
  | _, _ => none
theorem op_sB {f : Value → Value → Sem Value} {g : Str → Str → Bool} (h : OpR X f fun x y H Q => ∃ i j, x = .str i ∧ y = .str j ∧ Q (.bl (g i j)) H) : OpR X f (rP2 X.K (sB g)) := by
  intro pins s σ H x y v u Q I rx ry ⟨F, da, db, d, fd, hx, hy, q, k⟩
  unfold sB at q
  split at q
  · rename_i a b
    cases q
    rw [hx.str] at rx
    rw [hy.str] at ry
    exact h pins s σ H _ _ v u Q I rx ry ⟨a, b, rfl, rfl, KP.fz k (.bl _)⟩
  · cases q
open SeqAt in
def eqH : G2 := fun a b => if (shaped a && shaped b) = true then some (.bool (PyData.eqv a b)) else none
open SeqAt in
def neH : G2 := fun a b => if (shaped a && shaped b) = true then some (.bool (!PyData.eqv a b)) else none
theorem o_eqH (hu : X.A.units + 64 < cLine) : OpR X (compareOp .Eq) (rP2 X.K eqH) := by
  intro pins s σ H x y v u Q I rx ry ⟨F, da, db, d, fd, hx, hy, q, k⟩
  unfold eqH at q
  split at q
  · rename_i hc
    cases q
    rw [Bool.and_eq_true] at hc
    exact op_eqD hu pins s σ H _ _ v u Q I rx ry ⟨da, db, hx.dp (SeqAt.canLay_of_shaped hc.1), hy.dp (SeqAt.canLay_of_shaped hc.2), hc.1, hc.2, KP.fz k (.bl _)⟩
  · cases q
theorem o_neH (hu : X.A.units + 64 < cLine) : OpR X (compareOp .NotEq) (rP2 X.K neH) := by
  intro pins s σ H x y v u Q I rx ry ⟨F, da, db, d, fd, hx, hy, q, k⟩
  unfold neH at q
  split at q
  · rename_i hc
    cases q
    rw [Bool.and_eq_true] at hc
    exact op_neD hu pins s σ H _ _ v u Q I rx ry ⟨da, db, hx.dp (SeqAt.canLay_of_shaped hc.1), hy.dp (SeqAt.canLay_of_shaped hc.2), hc.1, hc.2, KP.fz k (.bl _)⟩
  · cases q
def eqD : G2 := orG (sB fun i j => decide (i = j)) eqH
def neD : G2 := orG (sB fun i j => !decide (i = j)) neH
theorem dec_ss (i j : Str) : decide (V.str i = V.str j) = decide (i = j) := by simp
theorem o_eq (hu : X.A.units + 64 < cLine) : OpR X (compareOp .Eq) (rP2 X.K eqD) := OpR.orP (op_sB fun pins s σ H x y v u Q I rx ry ⟨i, j, e1, e2, q⟩ => op_eq pins s σ H x y v u Q I rx ry (by
  subst e1
  subst e2
  exact ⟨rfl, by rw [dec_ss]; exact q⟩)) (o_eqH hu)
theorem o_ne (hu : X.A.units + 64 < cLine) : OpR X (compareOp .NotEq) (rP2 X.K neD) := OpR.orP (op_sB fun pins s σ H x y v u Q I rx ry ⟨i, j, e1, e2, q⟩ => op_ne pins s σ H x y v u Q I rx ry (by
  subst e1
  subst e2
  exact ⟨rfl, by rw [dec_ss]; exact q⟩)) (o_neH hu)
def ltD : G2 := orG (iB fun i j => decide (i < j)) (sB fun i j => decide (i.cps.toList < j.cps.toList))
def leD : G2 := orG (iB fun i j => decide (i ≤ j)) (sB fun i j => !decide (j.cps.toList < i.cps.toList))
def gtD : G2 := orG (iB fun i j => decide (j < i)) (sB fun i j => decide (j.cps.toList < i.cps.toList))
def geD : G2 := orG (iB fun i j => decide (j ≤ i)) (sB fun i j => !decide (i.cps.toList < j.cps.toList))
theorem o_lt : OpR X (compareOp .Lt) (rP2 X.K ltD) := OpR.orP (op_iB op_lt) (op_sB op_lt_str)
theorem o_le : OpR X (compareOp .LtE) (rP2 X.K leD) := OpR.orP (op_iB op_le) (op_sB op_le_str)
theorem o_gt : OpR X (compareOp .Gt) (rP2 X.K gtD) := OpR.orP (op_iB op_gt) (op_sB op_gt_str)
theorem o_ge : OpR X (compareOp .GtE) (rP2 X.K geD) := OpR.orP (op_iB op_ge) (op_sB op_ge_str)
end
end Ew

/-! EwOps3: in; is; subscripts; slices; chains; - . -/
namespace Ew
open PySem L2

theorem PIimp' {X : Cx} {e : Option Expr} {t t' : TO} (h : PO X e t) (i : ∀ σ H Q, t' σ H Q → t σ H Q) : PO X e t' := ⟨fun pins s σ H Q I q => h.run pins s σ H Q I (i _ _ _ q)⟩
/-! ### keys -/
def dK : D → Option Key
  | .int i => some (.inl i)
  | .str x => some (.inr x)
  | _ => none
theorem dK_kD (k : Key) : dK (kD k) = some k := by cases k <;> rfl
def kvGet : List (D × D) → Key → Option D
  | [], _ => none
  | p :: r, k => if dK p.1 = some k then some p.2 else kvGet r k
section
variable {K : PySem.W.Frag} {F : Addr → Prop} {H : Hp} {v : V} {ds : List D}
theorem FzKv.val : ∀ {kvs : List (Key × V)} {ds : List (D × D)}, FzKv K F H kvs ds → ∀ k, (kvGet ds k = none ∧ valV kvs k = none) ∨ ∃ d v, kvGet ds k = some d ∧ valV kvs k = some v ∧ Fz K F H v d
  | _, _, .nil, _ => .inl ⟨rfl, rfl⟩
  | _, _, .cons (k := a) (v := v) (vs := vs) (d := d) (ds := ds) h t, k => by
    unfold kvGet
    rw [dK_kD]
    by_cases e : a = k
    · subst e
      rw [if_pos rfl]
      exact .inr ⟨d, v, rfl, valV_pos rfl, h⟩
    · rw [if_neg (fun z => e (Option.some.inj z)), valV_neg e]
      exact FzKv.val t k
theorem Br.key {d : D} {k : Key} (h : Br K F H v d) (e : dK d = some k) : v = kV k := by
  unfold dK at e
  split at e
  · cases e; exact h.int
  · cases e; exact h.str
  · cases e
end
/-! ### in, not in -/
def hasS (x y : Str) : Bool := match x.cps.toList with
  | [c] => decide (c ∈ y.cps.toList)
  | _ => !(Builtin.Str.occurrences y x 0 y.length 1).isEmpty
def inG (s : Bool → Bool) : G2
  | .str x, .str y => some (.bool (s (hasS x y)))
  | x, .list ys => if (SeqAt.shaped x && SeqAt.shaped (.list ys)) = true then some (.bool (s (ys.any fun z => PyData.eqv z x))) else none
  | x, .tuple ys => if (SeqAt.shaped x && SeqAt.shaped (.tuple ys)) = true then some (.bool (s (ys.any fun z => PyData.eqv z x))) else none
  | x, .dict ys => (dK x).map fun k => .bool (s (kvGet ys k).isSome)
  | _, _ => none
def inD : G2 := inG id
def niD : G2 := inG not
section
variable {X : Cx}
theorem o_inG {op : CmpOp} {s : Bool → Bool} (hu : X.A.units + 65 < cLine)
    (h1 : OpR X (compareOp op) fun x y H Q => ∃ (c : Nat) (z : Str), x = .str ⟨#[c]⟩ ∧ y = .str z ∧ Q (.bl (s (decide (c ∈ z.cps.toList)))) H)
    (h2 : OpR X (compareOp op) fun x y H Q => ∃ i j, x = .str i ∧ y = .str j ∧ Q (.bl (s (!(Builtin.Str.occurrences j i 0 j.length 1).isEmpty))) H)
    (h3 : ∀ {sh : Shared} {c x : Value} {xs : List D} {d : D} {as bs : List Addr} {Q : Value → Shared → Prop}, Reads sh.heap c (.list xs) as → Reads sh.heap x d bs → PyData.canLayAll0 xs = true → d.canLay0 = true → X.A.units + 1 + min (PyData.depthAll xs) d.depth < cLine →
      Q (.bool (s (xs.any fun y => PyData.eqv y d))) sh → wpAny (model X.prog X.w) X.A (compareOp op x c) Q X.xe sh)
    (h4 : ∀ {sh : Shared} {c x : Value} {xs : List D} {d : D} {as bs : List Addr} {Q : Value → Shared → Prop}, Reads sh.heap c (.tuple xs) as → Reads sh.heap x d bs → PyData.canLayAll0 xs = true → d.canLay0 = true → X.A.units + 1 + min (PyData.depthAll xs) d.depth < cLine →
      Q (.bool (s (xs.any fun y => PyData.eqv y d))) sh → wpAny (model X.prog X.w) X.A (compareOp op x c) Q X.xe sh)
    (h5 : ∀ {pins : List (Addr × Obj)} {σ : St} {H : Hp} {sh : Shared} {a : Addr} {y : V} {u : Value} {o : Option V} {Q : Value → Shared → Prop}, Inv X pins σ H sh → DGet H a y o → RelV y u → (∀ s', Inv X pins σ H s' → Q (.bool (s o.isSome)) s') →
      wpAny (model X.prog X.w) X.A (compareOp op u (.ref a)) Q X.xe sh) : OpR X (compareOp op) (rP2 X.K (inG s)) := by
  intro pins sh σ H x y v u Q I rx ry ⟨F, da, db, d, fd, hx, hy, q, k⟩
  unfold inG at q
  split at q
  · rename_i a b
    cases q
    rw [hx.str] at rx
    rw [hy.str] at ry
    unfold hasS at k
    split at k
    · rename_i c hc
      have ea : a = ⟨#[c]⟩ := by
        obtain ⟨⟨l⟩⟩ := a
        simp only at hc
        subst hc
        rfl
      subst ea
      exact h1 pins sh σ H _ _ v u Q I rx ry ⟨c, b, rfl, rfl, KP.fz k (.bl _)⟩
    · exact h2 pins sh σ H _ _ v u Q I rx ry ⟨a, b, rfl, rfl, KP.fz k (.bl _)⟩
  · rename_i ys
    split at q
    · rename_i hc
      cases q
      rw [Bool.and_eq_true] at hc
      have c1 := SeqAt.canLay_of_shaped hc.1
      have c2 := SeqAt.canLay_of_shaped hc.2
      obtain ⟨as, r1⟩ := Dp.reads I _ x v (hx.dp c1) rx
      obtain ⟨bs, r2⟩ := Dp.reads I _ y u (hy.dp c2) ry
      exact h3 r2 r1 (by simpa [PyData.canLay0] using c2) c1 (PyProof.Rows.room_in_shaped hc.1 hu) ⟨.bl _, H, I, rfl, KP.fz k (.bl _)⟩
    · cases q
  · rename_i ys
    split at q
    · rename_i hc
      cases q
      rw [Bool.and_eq_true] at hc
      have c1 := SeqAt.canLay_of_shaped hc.1
      have c2 := SeqAt.canLay_of_shaped hc.2
      obtain ⟨as, r1⟩ := Dp.reads I _ x v (hx.dp c1) rx
      obtain ⟨bs, r2⟩ := Dp.reads I _ y u (hy.dp c2) ry
      exact h4 r2 r1 (by simpa [PyData.canLay0] using c2) c1 (PyProof.Rows.room_in_shaped hc.1 hu) ⟨.bl _, H, I, rfl, KP.fz k (.bl _)⟩
    · cases q
  · rename_i kvd
    obtain ⟨kk, e1, e2⟩ := Option.map_eq_some_iff.mp q
    subst e2
    obtain ⟨p, kvs, rfl, e3, z⟩ := hy.dict
    have ex := hx.key e1
    subst ex
    cases ry
    refine h5 I (DGet.k e3) rx fun s' I' => ⟨.bl _, H, I', rfl, ?_⟩
    rcases z.val kk with ⟨z1, z2⟩ | ⟨d1, v1, z1, z2, _⟩
    · rw [z2]
      rw [z1] at k
      exact KP.fz k (.bl _)
    · rw [z2]
      rw [z1] at k
      exact KP.fz k (.bl _)
  · cases q
theorem o_in (hu : X.A.units + 65 < cLine) : OpR X (compareOp .In) (rP2 X.K inD) := o_inG (s := id) hu op_in_sign op_in_str SeqAt.in_list_reads SeqAt.in_tuple_reads fun I g r h => d_in (by omega) I g r h
theorem o_notin (hu : X.A.units + 65 < cLine) : OpR X (compareOp .NotIn) (rP2 X.K niD) := o_inG (s := not) hu op_notIn_sign op_notIn_str SeqAt.notIn_list_reads SeqAt.notIn_tuple_reads fun I g r h => d_notIn (by omega) I g r h
/-! ### is -/
def isNone : D → Bool
  | .none => true
  | _ => false
def isG (s : Bool → Bool) : G2
  | x, .none => some (.bool (s (isNone x)))
  | .bool a, .bool b => some (.bool (s (decide (a = b))))
  | _, _ => none
theorem dec_non {K F H v d} (h : Br K F H v d) : decide (v = .non) = isNone d := by
  rcases h with h | ⟨a, rfl, h⟩
  · cases h <;> rfl
  · cases h <;> rfl
theorem o_isG {op : CmpOp} {s : Bool → Bool} (h1 : OpR X (compareOp op) fun x y H Q => y = .non ∧ Q (.bl (s (decide (x = .non)))) H) (h2 : OpR X (compareOp op) fun x y H Q => ∃ a b : Bool, x = .bl a ∧ y = .bl b ∧ Q (.bl (s (decide (a = b)))) H) : OpR X (compareOp op) (rP2 X.K (isG s)) := by
  intro pins sh σ H x y v u Q I rx ry ⟨F, da, db, d, fd, hx, hy, q, k⟩
  unfold isG at q
  split at q
  · cases q
    exact h1 pins sh σ H x y v u Q I rx ry ⟨hy.non, by rw [dec_non hx]; exact KP.fz k (.bl _)⟩
  · cases q
    exact h2 pins sh σ H x y v u Q I rx ry ⟨_, _, hx.bl, hy.bl, KP.fz k (.bl _)⟩
  · cases q
def isD : G2 := isG id
def isntD : G2 := isG not
theorem o_is : OpR X (compareOp .Is) (rP2 X.K isD) := o_isG (s := id) op_isN op_isBl
theorem o_isnt : OpR X (compareOp .IsNot) (rP2 X.K isntD) := o_isG (s := not) op_notN op_notBl
/-! ### a[i] -/
def ixD : G2
  | .list ds, .int i => atI ds i
  | .tuple ds, .int i => atI ds i
  | .str z, .int i => if z.length ≤ Sz then (atI z.cps.toList i).map fun c => .str ⟨#[c]⟩ else none
  | .dict kvs, k => (dK k).bind (kvGet kvs)
  | _, _ => none
theorem FzAll.atI {K F H} {vs : List V} {ds : List D} {i : Int} {d : D} (h : FzAll K F H vs ds) (e : L2.atI ds i = some d) : ∃ v, L2.atI vs i = some v ∧ Fz K F H v d := by
  unfold L2.atI at e ⊢
  rw [h.length]
  obtain ⟨j, e1, e2⟩ := Option.bind_eq_some_iff.mp e
  obtain ⟨v, h1, h2⟩ := h.get e2
  exact ⟨v, by rw [e1]; exact h1, h2⟩
theorem x_ix (hu : X.A.units + 1 < cLine) : IxR X (rP2 X.K ixD) := by
  intro value slice pins sh σ H x y v u Q I rx ry ⟨F, da, db, d, fd, hx, hy, q, k⟩ hs
  unfold ixD at q
  split at q
  · rename_i ds i
    obtain ⟨p, xs, rfl, h1, z⟩ := hx.list
    obtain ⟨w, e, fw⟩ := z.atI q
    exact ix_list value slice pins sh σ H _ _ v u Q I rx ry ⟨p, xs, i, w, rfl, hy.int, h1.sq, e, KP.fz k fw⟩ hs
  · rename_i ds i
    obtain ⟨p, xs, rfl, h1, z⟩ := hx.tup
    obtain ⟨w, e, fw⟩ := z.atI q
    exact ix_tup value slice pins sh σ H _ _ v u Q I rx ry ⟨p, xs, i, w, rfl, hy.int, h1, e, KP.fz k fw⟩ hs
  · rename_i z i
    split at q
    · rename_i hz
      obtain ⟨c, e1, e2⟩ := Option.map_eq_some_iff.mp q
      subst e2
      exact ix_str value slice pins sh σ H _ _ v u Q I rx ry ⟨z, i, c, hx.str, hy.int, sz_le hz, e1, KP.fz k (.str _)⟩ hs
    · cases q
  · rename_i kvd
    obtain ⟨kk, e1, e2⟩ := Option.bind_eq_some_iff.mp q
    obtain ⟨p, kvs, rfl, e3, z⟩ := hx.dict
    have ey := hy.key e1
    subst ey
    cases rx
    rcases z.val kk with ⟨z1, z2⟩ | ⟨d1, v1, z1, z2, f⟩
    · rw [z1] at e2; cases e2
    · rw [z1] at e2
      cases e2
      have g : DGet H p (kV kk) (some v1) := by
        rw [← z2]
        exact DGet.k e3
      exact PyProof.Rows.tail_any (ops := [.ref p, u]) (dict_typeIs I g) PySem.F.slot_dict_getitem.lookup (d_getItem hu I g ry fun w' s' I' rw' => ⟨v1, H, I', rw', KP.fz k f⟩) hs
  · cases q
/-! ### a[lo:hi] -/
abbrev Fo := En → Option (Option Int × En)
def tOo (K : PySem.W.Frag) (a0 : Addr) (f : Fo) : TO := fun σ H Q => ∃ F env, Rel K a0 F H σ env ∧ ∃ d env', f env = some (d, env') ∧ ∀ F' H', Stp F H σ env F' H' σ env' → Rel K a0 F' H' σ env' → Q d H'
structure SP (X : Cx) (a0 : Addr) (e : Option Expr) (f : Fo) : Prop where
  run : PO X e (tOo X.K a0 f)
def noP : Fo := fun env => some (none, env)
def atP (f : Fn) : Fo := fun env => (f env).bind fun x => match x.1 with
  | .int i => some (some i, x.2)
  | _ => none
variable {a0 : Addr} {e : Expr} {f : Fn} {lo hi : Option Expr} {pos p2 : Pos} {fl fh : Fo}
theorem sp_none : SP X a0 none noP := ⟨PIimp' po_none fun σ H Q ⟨F, env, R, d, env', q, k⟩ => by cases q; exact k F H Stp.refl R⟩
theorem sp_some (h : SE X a0 e f) : SP X a0 (some e) (atP f) := by
  refine ⟨PIimp' (po_some h.run) fun σ H Q ⟨F, env, R, d, env', q, k⟩ => ?_⟩
  obtain ⟨⟨d1, env1⟩, q1, q⟩ := Option.bind_eq_some_iff.mp q
  match d1, q1, q with
  | .int i, q1, q =>
    cases q
    exact ⟨F, env, R, _, env1, q1, fun v F' H' S R' z => ⟨i, (Br.int (.inl z)), k F' H' S R'⟩⟩
  | .none, _, q => exact nomatch q
  | .bool _, _, q => exact nomatch q
  | .str _, _, q => exact nomatch q
  | .list _, _, q => exact nomatch q
  | .tuple _, _, q => exact nomatch q
  | .dict _, _, q => exact nomatch q
def cutD (ds : List D) (lo hi : Option Int) : List D := (ds.drop (HT.sIx ds.length 0 lo)).take (HT.sIx ds.length ds.length hi - HT.sIx ds.length 0 lo)
theorem FzAll.cut {K F H} {vs : List V} {ds : List D} (h : FzAll K F H vs ds) (lo hi : Option Int) : FzAll K F H (cutV vs lo hi) (cutD ds lo hi) := by
  unfold cutV cutD
  rw [h.length]
  exact (h.drop _).take _
abbrev G3 := D → Option Int → Option Int → Option D
def slTS : G3
  | .tuple ds, lo, hi => some (.tuple (cutD ds lo hi))
  | .str z, lo, hi => if z.length ≤ Sz then some (.str (cutS z lo hi)) else none
  | _, _, _ => none
def slL : G3
  | .list ds, lo, hi => some (.list (cutD ds lo hi))
  | _, _, _ => none
def slD : G3 := fun a lo hi => (slTS a lo hi).or (slL a lo hi)
def rPS (K : PySem.W.Frag) (g : G3) : V → Option Int → Option Int → Hp → VK → Prop := fun x lo hi H Q => ∃ F a d, (∀ a : Addr, F a → H a ≠ none) ∧ Br K F H x a ∧ g a lo hi = some d ∧ KP K F H Q d
def rOS (K : PySem.W.Frag) (g : G3) : V → Option Int → Option Int → Hp → VK → Prop := fun x lo hi H Q => ∃ F a d, (∀ a : Addr, F a → H a ≠ none) ∧ Br K F H x a ∧ g a lo hi = some d ∧ KO K F H Q d
theorem l_slL : SlR X (rOS X.K slL) := by
  intro pins s σ H x v vl vu lo hi sl Q I rx hs pl pu ⟨F, a, d, fd, hx, q, k⟩
  unfold slL at q
  split at q
  · cases q
    obtain ⟨p, xs, rfl, h1, z⟩ := hx.list
    exact sl_list pins s σ H _ v vl vu _ _ sl Q I rx hs pl pu ⟨p, xs, rfl, h1.sq, fun q hq => KO.lst fd k (z.cut _ _) hq⟩
  · cases q
theorem l_slD : SlR X (rPS X.K slD) := by
  intro pins s σ H x v vl vu lo hi sl Q I rx hs pl pu ⟨F, a, d, fd, hx, q, k⟩
  unfold slD at q
  match e : slTS a lo hi with
  | none =>
    rw [e] at q
    exact l_slL pins s σ H x v vl vu lo hi sl Q I rx hs pl pu ⟨F, a, d, fd, hx, q, KP.ko k⟩
  | some d' =>
    rw [e] at q
    cases q
    unfold slTS at e
    split at e
    · rename_i ds
      cases e
      obtain ⟨p, xs, rfl, h1, z⟩ := hx.tup
      have fx := hx.tupFz
      have zl := z.length
      refine sl_tupA pins s σ H _ v vl vu _ _ sl Q I rx hs pl pu ⟨p, xs, rfl, h1, fun w => ?_, fun _ q hq => KP.tup k (z.cut _ _) hq⟩
      refine KP.fz k ?_
      have e2 : cutD ds lo hi = ds := by
        unfold cutD
        rw [← zl, w.1, w.2, List.drop_zero, Nat.sub_zero, zl, List.take_length]
      rw [e2]
      exact fx
    · rename_i z
      split at e
      · rename_i hz
        cases e
        exact sl_str pins s σ H x v vl vu lo hi sl Q I rx hs pl pu ⟨z, hx.str, sz_le hz, KP.fz k (.str _)⟩
      · cases e
    · cases e
def slF (g : G3) (f : Fn) (fl fh : Fo) : Fn := fun env => (f env).bind fun x => (fl x.2).bind fun l => (fh l.2).bind fun h => (g x.1 l.1 h.1).map fun d => (d, h.2)
/-- the thing that is cut is a frozen value -/
theorem se_sl (he : SE X a0 e f) (hl : SP X a0 lo fl) (hh : SP X a0 hi fh) : SE X a0 (.Subscript e (.Slice lo hi none p2) pos) (slF slD f fl fh) := by
  refine ⟨PEimp (pe_slice l_slD he.run hl.run hh.run) fun σ H Q ⟨F, env, R, d, env', q, k⟩ => ?_⟩
  obtain ⟨⟨d1, env1⟩, q1, q⟩ := Option.bind_eq_some_iff.mp q
  obtain ⟨⟨l, env2⟩, q2, q⟩ := Option.bind_eq_some_iff.mp q
  obtain ⟨⟨h, env3⟩, q3, q⟩ := Option.bind_eq_some_iff.mp q
  obtain ⟨d2, q4, q⟩ := Option.map_eq_some_iff.mp q
  cases q
  exact ⟨F, env, R, d1, env1, q1, fun v F1 H1 S1 R1 z => ⟨F1, env1, R1, l, env2, q2, fun F2 H2 S2 R2 => ⟨F2, env2, R2, h, env3, q3, fun F3 H3 S3 R3 => ⟨F3, d1, d, R3.fd, .inl ((S2.trans S3).fz R1 z), q4,
    fun w F' H' G fw => k w F' H' (((S1.trans S2).trans S3).trans G.stp) (G.rel R3) fw⟩⟩⟩⟩
theorem so_sl (he : SE X a0 e f) (hl : SP X a0 lo fl) (hh : SP X a0 hi fh) : SO X a0 (.Subscript e (.Slice lo hi none p2) pos) (slF slL f fl fh) := by
  refine ⟨PEimp (pe_slice l_slL he.run hl.run hh.run) fun σ H Q ⟨F, env, R, d, env', q, k⟩ => ?_⟩
  obtain ⟨⟨d1, env1⟩, q1, q⟩ := Option.bind_eq_some_iff.mp q
  obtain ⟨⟨l, env2⟩, q2, q⟩ := Option.bind_eq_some_iff.mp q
  obtain ⟨⟨h, env3⟩, q3, q⟩ := Option.bind_eq_some_iff.mp q
  obtain ⟨d2, q4, q⟩ := Option.map_eq_some_iff.mp q
  cases q
  refine ⟨F, env, R, d1, env1, q1, fun v F1 H1 S1 R1 z => ⟨F1, env1, R1, l, env2, q2, fun F2 H2 S2 R2 => ⟨F2, env2, R2, h, env3, q3, fun F3 H3 S3 R3 => ⟨F3, d1, d, R3.fd, .inl ((S2.trans S3).fz R1 z), q4, ?_⟩⟩⟩⟩
  intro p F' H' G hp nf b
  have S := ((S1.trans S2).trans S3)
  exact k p F' H' (S.trans G.stp) (G.rel R3) (S.new_of hp) nf (fun w => (R3.owned w).2.2 hp) b
/-! ### - -/
def negD : D → Option D
  | .int i => some (.int (-i))
  | _ => none
def un1 (g : D → Option D) (f : Fn) : Fn := fun env => (f env).bind fun x => (g x.1).map fun d => (d, x.2)
theorem se_neg (he : SE X a0 e f) : SE X a0 (.UnaryOp .USub e pos) (un1 negD f) := by
  refine ⟨PEimp (pe_un un_neg he.run) fun σ H Q ⟨F, env, R, d, env', q, k⟩ => ?_⟩
  obtain ⟨⟨d1, env1⟩, q1, q⟩ := Option.bind_eq_some_iff.mp q
  obtain ⟨d2, q2, q⟩ := Option.map_eq_some_iff.mp q
  cases q
  match d1, q1, q2 with
  | .int i, q1, q2 =>
    cases q2
    exact ⟨F, env, R, _, env1, q1, fun v F' H' S R' z => ⟨i, Br.int (.inl z), k _ F' H' S R' (.int _)⟩⟩
/-! ### a op b op c -/
def chF (g g' : G2) (fa fb fc : Fn) : Fb := fun env => (fa env).bind fun x => (fb x.2).bind fun y => (g x.1 y.1).bind fun d => match d with
  | .bool true => (fc y.2).bind fun z => (g' y.1 z.1).bind fun d => match d with
    | .bool b => some (b, z.2)
    | _ => none
  | .bool false => some (false, y.2)
  | _ => none
variable {op op' : CmpOp} {g g' : G2} {ea eb ec : Expr} {fa fb fc : Fn}
theorem ch_core {σ : St} {H : Hp} {Q : VK} (h : tT X.K a0 (chF g g' fa fb fc) σ H fun b H' => Q (.bl b) H') : tChain (rP2 X.K g) (rP2 X.K g') (tE X.K a0 fa) (tE X.K a0 fb) (tE X.K a0 fc) σ H Q := by
  obtain ⟨F, env, R, b, env', q, k⟩ := h
  obtain ⟨⟨d1, env1⟩, q1, q⟩ := Option.bind_eq_some_iff.mp q
  obtain ⟨⟨d2, env2⟩, q2, q⟩ := Option.bind_eq_some_iff.mp q
  obtain ⟨d3, q3, q⟩ := Option.bind_eq_some_iff.mp q
  refine ⟨F, env, R, d1, env1, q1, fun v F1 H1 S1 R1 z1 => ⟨F1, env1, R1, d2, env2, q2, fun w F2 H2 S2 R2 z2 => ⟨F2, d1, d2, d3, R2.fd, .inl (S2.fz R1 z1), .inl z2, q3, fun x F3 H3 G z3 => ?_⟩⟩⟩
  have R3 := G.rel R2
  have S3 := (S1.trans S2).trans G.stp
  match d3, z3, q with
  | .bool false, z3, q =>
    cases q
    exact ⟨false, fz_bool z3, iteF (k F3 H3 S3 R3)⟩
  | .bool true, z3, q =>
    refine ⟨true, fz_bool z3, iteT ?_⟩
    obtain ⟨⟨d4, env4⟩, q4, q⟩ := Option.bind_eq_some_iff.mp q
    obtain ⟨d5, q5, q⟩ := Option.bind_eq_some_iff.mp q
    refine ⟨F3, env2, R3, d4, env4, q4, fun y F4 H4 S4 R4 z4 => ⟨F4, d2, d4, d5, R4.fd, .inl ((G.stp.trans S4).fz R2 z2), .inl z4, q5, fun y' F5 H5 G5 z5 => ?_⟩⟩
    match d5, z5, q with
    | .bool b', z5, q =>
      cases q
      rw [fz_bool z5]
      exact k F5 H5 ((S3.trans S4).trans G5.stp) (G5.rel R4)
    | .none, _, q => exact nomatch q
    | .int _, _, q => exact nomatch q
    | .str _, _, q => exact nomatch q
    | .list _, _, q => exact nomatch q
    | .tuple _, _, q => exact nomatch q
    | .dict _, _, q => exact nomatch q
  | .none, _, q => exact nomatch q
  | .int _, _, q => exact nomatch q
  | .str _, _, q => exact nomatch q
  | .list _, _, q => exact nomatch q
  | .tuple _, _, q => exact nomatch q
  | .dict _, _, q => exact nomatch q
theorem ch_run {σ : St} {H : Hp} {Q : Bool → Hp → Prop} (h : tT X.K a0 (chF g g' fa fb fc) σ H Q) : tTest (tChain (rP2 X.K g) (rP2 X.K g') (tE X.K a0 fa) (tE X.K a0 fb) (tE X.K a0 fc)) σ H Q := by
  obtain ⟨F, env, R, b, env', q, k⟩ := h
  exact ch_core ⟨F, env, R, b, env', q, fun F' H' S R' => ⟨b, rfl, k F' H' S R'⟩⟩
theorem st_chain (ho : OpR X (compareOp op) (rP2 X.K g)) (ho' : OpR X (compareOp op') (rP2 X.K g')) (ha : SE X a0 ea fa) (hb : SE X a0 eb fb) (hc : SE X a0 ec fc) (hm : lastMarks [op, op'] [eb, ec] = false := by with_unfolding_all rfl) :
    ST X a0 (.Compare ea [op, op'] [eb, ec] pos) (chF g g' fa fb fc) := ⟨PTimp (pt_chain ho ho' ha.run hb.run hc.run hm) fun σ H Q h => ch_run h⟩
end
end Ew

/-! EwIter: what is walked: lists, tuples, texts; enumerate and zip over any of them; range. -/
namespace Ew
open PySem L2 PySem.Spec PyProof.Rows

/-! ### sources -/
/-- a thing that is walked: a list, a tuple, a text -/
inductive Kv where
  | ls (a : Addr) | tp (a : Addr) | tx (x : Str)
def chs (x : Str) : List V := x.cps.toList.map fun c => V.str ⟨#[c]⟩
def Kv.v : Kv → V
  | .ls a => .ref a
  | .tp a => .ref a
  | .tx x => .str x
def Kv.src (K : PySem.W.Frag) (H : Hp) : Kv → List V → Prop
  | .ls a, vs => SqL K H a vs
  | .tp a, vs => SqT K H a vs
  | .tx x, vs => vs = chs x
def Kv.cell (it : Addr) (t : Tok) : Kv → Nat → Heap → Prop
  | .ls a, i, h => h.IsListIter it a i
  | .tp a, i, h => h.IsTupleIter it a i
  | .tx x, i, h => h.IsStrIter it (strIterType x) x t i
theorem Kv.cell_obj {it : Addr} {t : Tok} {κ : Kv} {i : Nat} {h : Heap} (c : κ.cell it t i h) : ∃ o, h.get? it = some o ∧ ∀ v, o.data ≠ .cell v := by
  cases κ with
  | ls a => obtain ⟨o, e, _, d⟩ := c; exact ⟨o, e, fun v z => by rw [d] at z; cases z⟩
  | tp a => obtain ⟨o, e, _, d⟩ := c; exact ⟨o, e, fun v z => by rw [d] at z; cases z⟩
  | tx x => obtain ⟨o, e, _, d⟩ := c; exact ⟨o, e, fun v z => by rw [d] at z; cases z⟩
theorem Kv.cell_keep {it : Addr} {t : Tok} {κ : Kv} {i : Nat} {h h' : Heap} (c : κ.cell it t i h) (k : ∀ o, h.get? it = some o → h'.get? it = some o) : κ.cell it t i h' := by
  cases κ with
  | ls a => obtain ⟨o, e, r⟩ := c; exact ⟨o, k o e, r⟩
  | tp a => obtain ⟨o, e, r⟩ := c; exact ⟨o, k o e, r⟩
  | tx x => obtain ⟨o, e, r⟩ := c; exact ⟨o, k o e, r⟩
section
variable {X : Cx} {pins : List (Addr × Obj)} {σ : St} {H : Hp} {s : Shared}
/-- what is tracked is no cell of an iterator -/
theorem src_fp {a : Addr} (I : Inv X pins σ H s) (h : H a ≠ none ∨ ∃ o, X.K.lookup a = some o) : ¬ FpOk X pins H a := fun f => by
  rcases h with h | ⟨o, h⟩
  · exact h f.1
  · have e := I.ok.mod.kin a o h
    rcases f.2.2.2.1 with z | z
    · exact I.ok.noex a o e z
    · exact absurd (Heap.lt_size (I.ok.bs a o e).1) (Nat.not_lt.mpr z)
theorem vals_at : ∀ {xs : List V} {us : List Value} {i : Nat} {u : Value}, Vals xs us → us[i]? = some u → ∃ x, xs[i]? = some x ∧ RelV x u
  | _, _, _, _, .nil, e => by simp at e
  | _, _, 0, _, .cons r _, e => by simp at e; subst e; exact ⟨_, rfl, r⟩
  | _, _, i + 1, u, .cons _ t, e => by
    obtain ⟨x, h1, h2⟩ := vals_at (i := i) (u := u) t (by simpa using e)
    exact ⟨x, by simpa using h1, h2⟩
theorem sqL_some {a : Addr} {xs : List V} (h : SqL X.K H a xs) : H a ≠ none ∨ ∃ o, X.K.lookup a = some o := by
  rcases h with (h | ⟨o, h⟩) | ⟨o, _, _, h, _⟩
  · exact .inl (by rw [h]; exact fun z => nomatch z)
  · exact .inl (by rw [h]; exact fun z => nomatch z)
  · exact .inr ⟨o, h⟩
theorem sqT_some {a : Addr} {xs : List V} (h : SqT X.K H a xs) : H a ≠ none ∨ ∃ o, X.K.lookup a = some o := by
  rcases h with (h | ⟨o, h⟩) | ⟨o, _, _, h, _⟩
  · exact .inl (by rw [h]; exact fun z => nomatch z)
  · exact .inl (by rw [h]; exact fun z => nomatch z)
  · exact .inr ⟨o, h⟩
theorem Kv.inj {κ : Kv} {xs ys : List V} (I : Inv X pins σ H s) (h1 : κ.src X.K H xs) (h2 : κ.src X.K H ys) : xs = ys := by
  cases κ with
  | ls a => exact I.list_inj h1 h2
  | tp a => exact I.tuple_inj h1 h2
  | tx x => exact h1.trans h2.symm
/-- the source as the library draws from it -/
theorem Kv.draw {κ : Kv} {vs : List V} {it : Addr} {t : Tok} {i : Nat} (I : Inv X pins σ H s) (hh : X.A.handled = none) (h : κ.src X.K H vs) (c : κ.cell it t i s.heap) (f : FpOk X pins H it) :
    ∃ (fp : List Addr) (n : Nat) (P : Nat → Value → Prop) (S : Nat → Heap → Prop), Draws X.prog X.w X.A.in1 it fp n P S ∧ n = vs.length ∧ S i s.heap ∧ it ∈ fp ∧ (∀ j u, P j u → ∃ x, vs[j]? = some x ∧ RelV x u) ∧ (∀ j h', S j h' → κ.cell it t j h') ∧ ∀ b ∈ fp, b = it ∨ ¬ FpOk X pins H b := by
  cases κ with
  | ls a =>
    obtain ⟨its, rv, p, _⟩ := I.list h
    have na := src_fp I (sqL_some h)
    have hne : a ≠ it := fun z => na (z ▸ f)
    refine ⟨_, _, _, _, Draws.list (A := X.A.in1) hh it a hne its.toArray, by rw [rv.length, List.size_toArray], ⟨c, p.isList⟩, by simp, fun j u e => ?_, fun j h' z => z.1, fun b hb => ?_⟩
    · have e' : its[j]? = some u := by simpa using e
      exact vals_at rv e'
    · have : b = it ∨ b = a := by simpa using hb
      rcases this with z | z
      · exact .inl z
      · exact .inr (by rw [z]; exact na)
  | tp a =>
    obtain ⟨its, rv, p, _⟩ := I.tuple h
    have na := src_fp I (sqT_some h)
    have hne : a ≠ it := fun z => na (z ▸ f)
    refine ⟨_, _, _, _, Draws.tuple (A := X.A.in1) hh it a hne its.toArray, by rw [rv.length, List.size_toArray], ⟨c, p⟩, by simp, fun j u e => ?_, fun j h' z => z.1, fun b hb => ?_⟩
    · have e' : its[j]? = some u := by simpa using e
      exact vals_at rv e'
    · have : b = it ∨ b = a := by simpa using hb
      rcases this with z | z
      · exact .inl z
      · exact .inr (by rw [z]; exact na)
  | tx x =>
    have e : vs = chs x := h
    subst e
    refine ⟨_, _, _, _, Draws.text (A := X.A.in1) hh it x t, by simp [chs], c, by simp, fun j u ⟨k, w, e1, e2⟩ => ?_, fun j h' z => z, fun b hb => .inl (by simpa using hb)⟩
    refine ⟨.str ⟨#[k]⟩, ?_, w, e2⟩
    have e1' : x.cps.toList[j]? = some k := by simpa using e1
    simp [chs, e1']
end

/-! ### enumerate -/
/-- each item in a new pair with its place -/
def ItE (K : PySem.W.Frag) (κ : Kv) : It :=
  ⟨fun i H => ∃ vs x, κ.src K H vs ∧ vs[i]? = some x, fun i H v H' => ∃ T x, v = .ref T ∧ H T = none ∧ H' = upd H T (.tup [.int (i : Nat), x]) ∧ ∀ vs, κ.src K H vs → vs[i]? = some x, fun i H => ∃ vs, κ.src K H vs ∧ vs.length = i⟩
def tnE (κ : Kv) (e it : Addr) (t : Tok) (i : Nat) (h : Heap) : Prop := (∃ old, IsEnum h e it ((i : Nat) : Int) old) ∧ κ.cell it t i h ∧ e ≠ it
theorem new_tup {X : Cx} {pins : List (Addr × Obj)} {σ : St} {H : Hp} {s : Shared} {h' : Heap} {tk : Nat} {wr : List Addr} {T : Addr} {xs : List V} {us : List Value} (I : Inv X pins σ H s) (hk : ∀ b o, b ∉ wr → s.heap.get? b = some o → h'.get? b = some o) (hf : ∀ b ∈ wr, FpOk X pins H b)
    (hT : s.heap.objs.size ≤ T) (hz : xs.length ≤ sizeLine) (r : Vals xs us) (it : h'.IsTuple T us.toArray) : Inv X pins σ (upd H T (.tup xs)) { s with heap := h', toks := tk } := by
  refine I.turnedNew (ch := wr) hk hf hT ?_
  obtain ⟨o, h1, h2, n, h3⟩ := it
  exact ⟨hz, us, r, ⟨o, h1, h2, n, h3⟩⟩
theorem turn_en {P : Program} {w : World} {K : PySem.W.Frag} {elts : List Expr} {kk : Nat} {tpos : Pos} (κ : Kv) (e it : Addr) (t : Tok) : Turn P w K (.Tuple elts kk tpos) (ItE K κ) [e, it] e (tnE κ e it t) where
  mem := by simp
  obj := fun i h st b hb => by
    obtain ⟨⟨old, he⟩, c, _⟩ := st
    have e' : b = e ∨ b = it := by simpa using hb
    rcases e' with z | z
    · rw [z]; exact ⟨_, he, fun v q => nomatch q⟩
    · rw [z]; exact κ.cell_obj c
  keep := fun i h h' st k => let ⟨⟨old, he⟩, c, hne⟩ := st; ⟨⟨old, k e (by simp) _ he⟩, κ.cell_keep c (k it (by simp)), hne⟩
  item := by
    intro X hP hw hK hc i pins s σ H E I hf st hg
    subst hP hw hK
    obtain ⟨⟨old, he⟩, hit, hne⟩ := st
    obtain ⟨vs, x, hq, hx⟩ := hg
    obtain ⟨fp, n, P, S, D, hn, hS, hm, hP, hback, hap⟩ := κ.draw I (I.ok.hd hc) hq hit (hf it (by simp))
    have hef : e ∉ fp := fun z => (hap e z).elim hne fun q => q (hf e (by simp))
    have hi : i < n := by rw [hn]; exact (List.getElem?_eq_some_iff.mp hx).1
    refine (GoesN.enumFrom (elts := elts) (x1 := kk) (pos := tpos) 0 D e hne hef hm).goes i s (fun v s2 => ∃ x H', Inv X pins σ H' s2 ∧ RelV x v ∧ (ItE X.K κ).yld i H x H' ∧ tnE κ e it t (i + 1) s2.heap ∧ ∀ b ∈ [e, it], H' b = none) E hi ⟨⟨old, by rw [Int.zero_add]; exact he⟩, hS⟩ fun v h' tk hY hst hk _ => ?_
    obtain ⟨T, t', u, rfl, hT, hu, htup⟩ := hY
    obtain ⟨y, hy, ry⟩ := hP i u hu
    rw [hx] at hy
    cases hy
    have I1 : Inv X pins σ (upd H T (.tup [.int (i : Nat), x])) { s with heap := h', toks := tk } := new_tup (us := [.int (0 + (i : Nat)) t', u]) I hk hf hT (by show 2 ≤ sizeLine; decide) (.cons ⟨t', by rw [Int.zero_add]⟩ (.cons ry .nil)) htup
    refine ⟨.ref T, _, I1, rfl, ⟨T, x, rfl, I.hok.fresh hT, rfl, fun ys hys => by rw [κ.inj I hys hq]; exact hx⟩, ⟨?_, hback _ _ hst.2, hne⟩, fun b hb => ?_⟩
    · obtain ⟨⟨o2, h2⟩, _⟩ := hst
      rw [Int.zero_add] at h2
      exact ⟨o2, h2⟩
    · have hb' : b < s.heap.objs.size := by
        have e' : b = e ∨ b = it := by simpa using hb
        rcases e' with z | z
        · rw [z]; exact Heap.lt_size he
        · obtain ⟨o, q, _⟩ := κ.cell_obj hit
          rw [z]; exact Heap.lt_size q
      rw [upd_ne (Nat.ne_of_lt (Nat.lt_of_lt_of_le hb' hT))]
      exact (hf b hb).1
  done := by
    intro X hP hw hK hc i pins s σ H E I hf st hg
    subst hP hw hK
    obtain ⟨⟨old, he⟩, hit, hne⟩ := st
    obtain ⟨vs, hq, hx⟩ := hg
    obtain ⟨fp, n, P, S, D, hn, hS, hm, hP, hback, hap⟩ := κ.draw I (I.ok.hd hc) hq hit (hf it (by simp))
    have hef : e ∉ fp := fun z => (hap e z).elim hne fun q => q (hf e (by simp))
    have ei : i = n := by rw [hn, hx]
    subst ei
    refine (GoesN.enumFrom (elts := elts) (x1 := kk) (pos := tpos) 0 D e hne hef hm).stops s (fun s1 => Inv X pins σ H s1) E ⟨⟨old, by rw [Int.zero_add]; exact he⟩, hS⟩ fun h' tk hk _ => ?_
    exact I.turnedL (ch := [e, it]) (fun b o hb q => hk b o hb q) hf
  self := fun A i s Q E st h => let ⟨⟨_, he⟩, _⟩ := st; wpAny_pyIter_enum he h

/-! ### zip -/
def ItZ (K : PySem.W.Frag) (κ κ' : Kv) : It :=
  ⟨fun i H => ∃ xs ys x y, κ.src K H xs ∧ κ'.src K H ys ∧ xs[i]? = some x ∧ ys[i]? = some y,
    fun i H v H' => ∃ T x y, v = .ref T ∧ H T = none ∧ H' = upd H T (.tup [x, y]) ∧ (∀ xs, κ.src K H xs → xs[i]? = some x) ∧ ∀ ys, κ'.src K H ys → ys[i]? = some y,
    fun i H => ∃ xs ys, κ.src K H xs ∧ κ'.src K H ys ∧ min xs.length ys.length = i⟩
/-- the cells of a zip are apart -/
structure ZA (z TI TO i1 i2 : Addr) : Prop where
  h1 : TI ≠ z
  h2 : TO ≠ z
  h3 : TI ≠ TO
  h4 : TI ≠ i1
  h5 : TI ≠ i2
  h6 : z ≠ i1
  h7 : z ≠ i2
  h8 : TO ≠ i1
  h9 : TO ≠ i2
  h0 : i1 ≠ i2
def tnZ (κ κ' : Kv) (z TI TO i1 i2 : Addr) (t t' : Tok) (i : Nat) (h : Heap) : Prop := IsZip h z TI TO .none ∧ IsTupOf2 h TI (.ref i1) (.ref i2) ∧ (∃ a b, IsTupOf2 h TO a b) ∧ κ.cell i1 t i h ∧ κ'.cell i2 t' i h
theorem ZA.sep {X : Cx} {pins : List (Addr × Obj)} {H : Hp} {z TI TO i1 i2 : Addr} {fp1 fp2 : List Addr} (A : ZA z TI TO i1 i2) (hf : ∀ b ∈ [z, TI, TO, i1, i2], FpOk X pins H b) (m1 : i1 ∈ fp1) (m2 : i2 ∈ fp2) (a1 : ∀ b ∈ fp1, b = i1 ∨ ¬ FpOk X pins H b) (a2 : ∀ b ∈ fp2, b = i2 ∨ ¬ FpOk X pins H b) :
    ZipSep2 z TI TO i1 i2 fp1 fp2 where
  TIz := A.h1
  TOz := A.h2
  TITO := A.h3
  TIi1 := A.h4
  mem1 := m1
  zf1 := fun q => (a1 z q).elim A.h6 fun n => n (hf z (by simp))
  Tf1 := fun q => (a1 TO q).elim A.h8 fun n => n (hf TO (by simp))
  TIi2 := A.h5
  mem2 := m2
  zf2 := fun q => (a2 z q).elim A.h7 fun n => n (hf z (by simp))
  Tf2 := fun q => (a2 TO q).elim A.h9 fun n => n (hf TO (by simp))
  sep1_2 := fun q => (a2 i1 q).elim A.h0 fun n => n (hf i1 (by simp))
  sep2_1 := fun q => (a1 i2 q).elim (Ne.symm A.h0) fun n => n (hf i2 (by simp))
theorem turn_zp {P : Program} {w : World} {K : PySem.W.Frag} {elts : List Expr} {kk : Nat} {tpos : Pos} (κ κ' : Kv) {z TI TO i1 i2 : Addr} (t t' : Tok) (A : ZA z TI TO i1 i2) : Turn P w K (.Tuple elts kk tpos) (ItZ K κ κ') [z, TI, TO, i1, i2] z (tnZ κ κ' z TI TO i1 i2 t t') where
  mem := by simp
  obj := fun i h st c hc => by
    obtain ⟨hz, hTI, ⟨x, y, hTO⟩, c1, c2⟩ := st
    have e' : c = z ∨ c = TI ∨ c = TO ∨ c = i1 ∨ c = i2 := by simpa using hc
    rcases e' with q | q | q | q | q
    · rw [q]; exact ⟨_, hz, fun v q => nomatch q⟩
    · rw [q]; exact ⟨_, hTI, fun v q => nomatch q⟩
    · rw [q]; exact ⟨_, hTO, fun v q => nomatch q⟩
    · rw [q]; exact κ.cell_obj c1
    · rw [q]; exact κ'.cell_obj c2
  keep := fun i h h' st k => by
    obtain ⟨hz, hTI, ⟨x, y, hTO⟩, c1, c2⟩ := st
    exact ⟨k z (by simp) _ hz, k TI (by simp) _ hTI, ⟨x, y, k TO (by simp) _ hTO⟩, κ.cell_keep c1 (k i1 (by simp)), κ'.cell_keep c2 (k i2 (by simp))⟩
  item := by
    intro X hP hw hK hc i pins s σ H E I hf st hg
    subst hP hw hK
    obtain ⟨hz, hTI, hTO, c1, c2⟩ := st
    obtain ⟨xs, ys, x, y, hqx, hqy, hx, hy⟩ := hg
    obtain ⟨fp1, n1, P1, S1, D1, hn1, hS1, hm1, hP1, hb1, ha1⟩ := κ.draw I (I.ok.hd hc) hqx c1 (hf i1 (by simp))
    obtain ⟨fp2, n2, P2, S2, D2, hn2, hS2, hm2, hP2, hb2, ha2⟩ := κ'.draw I (I.ok.hd hc) hqy c2 (hf i2 (by simp))
    have l1 := (List.getElem?_eq_some_iff.mp hx).1
    have l2 := (List.getElem?_eq_some_iff.mp hy).1
    refine (GoesN.zip2 (elts := elts) (x1 := kk) (pos := tpos) (A.sep hf hm1 hm2 ha1 ha2) D1 D2).goes i s (fun v s2 => ∃ x H', Inv X pins σ H' s2 ∧ RelV x v ∧ (ItZ X.K κ κ').yld i H x H' ∧ tnZ κ κ' z TI TO i1 i2 t t' (i + 1) s2.heap ∧ ∀ b ∈ [z, TI, TO, i1, i2], H' b = none) E (by omega) ⟨hz, hTI, hTO, hS1, hS2⟩ fun v h' tk hY hst hk _ => ?_
    obtain ⟨T, u1, u2, rfl, hT, hu1, hu2, htup⟩ := hY
    obtain ⟨y1, hy1, ry1⟩ := hP1 i u1 hu1
    obtain ⟨y2, hy2, ry2⟩ := hP2 i u2 hu2
    rw [hx] at hy1
    rw [hy] at hy2
    cases hy1
    cases hy2
    have I1 : Inv X pins σ (upd H T (.tup [x, y])) { s with heap := h', toks := tk } := new_tup (us := [u1, u2]) (wr := [z, TO, i1, i2]) I hk (fun b hb => hf b (by
      have e' : b = z ∨ b = TO ∨ b = i1 ∨ b = i2 := by simpa using hb
      rcases e' with q | q | q | q <;> rw [q] <;> simp)) hT (by show 2 ≤ sizeLine; decide) (.cons ry1 (.cons ry2 .nil)) htup
    obtain ⟨g1, g2, g3, g4, g5⟩ := hst
    refine ⟨.ref T, _, I1, rfl, ⟨T, x, y, rfl, I.hok.fresh hT, rfl, fun l hl => by rw [κ.inj I hl hqx]; exact hx, fun l hl => by rw [κ'.inj I hl hqy]; exact hy⟩, ⟨g1, g2, g3, hb1 _ _ g4, hb2 _ _ g5⟩, fun b hb => ?_⟩
    have hb' : b < s.heap.objs.size := by
      have e' : b = z ∨ b = TI ∨ b = TO ∨ b = i1 ∨ b = i2 := by simpa using hb
      obtain ⟨a, a', hTO⟩ := hTO
      obtain ⟨o1, q1, _⟩ := κ.cell_obj c1
      obtain ⟨o2, q2, _⟩ := κ'.cell_obj c2
      rcases e' with q | q | q | q | q <;> rw [q]
      · exact Heap.lt_size hz
      · exact Heap.lt_size hTI
      · exact Heap.lt_size hTO
      · exact Heap.lt_size q1
      · exact Heap.lt_size q2
    rw [upd_ne (Nat.ne_of_lt (Nat.lt_of_lt_of_le hb' hT))]
    exact (hf b hb).1
  done := by
    intro X hP hw hK hc i pins s σ H E I hf st hg
    subst hP hw hK
    obtain ⟨hz, hTI, hTO, c1, c2⟩ := st
    obtain ⟨xs, ys, hqx, hqy, hend⟩ := hg
    obtain ⟨fp1, n1, P1, S1, D1, hn1, hS1, hm1, hP1, hb1, ha1⟩ := κ.draw I (I.ok.hd hc) hqx c1 (hf i1 (by simp))
    obtain ⟨fp2, n2, P2, S2, D2, hn2, hS2, hm2, hP2, hb2, ha2⟩ := κ'.draw I (I.ok.hd hc) hqy c2 (hf i2 (by simp))
    have ei : i = min n1 n2 := by rw [hn1, hn2, hend]
    subst ei
    refine (GoesN.zip2 (elts := elts) (x1 := kk) (pos := tpos) (A.sep hf hm1 hm2 ha1 ha2) D1 D2).stops s (fun s1 => Inv X pins σ H s1) E ⟨hz, hTI, hTO, hS1, hS2⟩ fun h' tk hk _ => ?_
    exact I.turnedL (ch := [z, TI, TO, i1, i2]) (fun b o hb q => hk b o (fun m => hb (by
      have e' : b = z ∨ b = TO ∨ b = i1 ∨ b = i2 := by simpa using m
      rcases e' with q | q | q | q <;> rw [q] <;> simp)) q) hf
  self := fun A i s Q E st h => wpAny_pyIter_zip st.1 h
end Ew

/-! EwIter2: the iterables of for and of comprehensions. -/
namespace Ew
open PySem L2 PySem.Spec PyProof.Rows

/-! ### enumerate(v) begins -/
theorem meets_en1 {v : Value} {o : Obj} {H : Heap → Prop} (B : Begins v o H) :
    Meets (Builtin.«enumerate.__new__» ⟨[.type "enumerate", v], []⟩) (fun _ R s => H s.heap ∧
      R (.ok (.ret (.ref (s.heap.push o).objs.size))) { s with heap := (s.heap.push o).push { cls := .type "enumerate", data := .fields #[.none, .bool false, .ref s.heap.objs.size, rawInt 0, .none, .none] } }) := by
  refine .of_wp fun prog w A R s h => ?_
  obtain ⟨hp, g, d, tk, os⟩ := s
  obtain ⟨h1, h⟩ := h
  have hsub := sub_enumerate
  have beg : ∀ {A' : Around} {E : Value → Shared → Prop} {Q : Value → Shared → Prop}, Q (.ref hp.objs.size) ⟨hp.push o, g, d, tk, os⟩ → wpAny (model prog w) A' (pyIter v) Q E ⟨hp, g, d, tk, os⟩ :=
    fun q => B.iter prog w _ _ ⟨hp, g, d, tk, os⟩ _ h1 q
  wp_walk using beg
  refine wpAny_stack_any fun st => wpAny_pure ?_
  split
  · rename_i c _ _ _ _ _
    cases (c == Value.type "enumerate")
    · wp_walk using beg
      exact ⟨_, rfl, h⟩
    · wp_walk using beg
      exact ⟨_, rfl, h⟩
  · wp_walk using beg
    exact ⟨_, rfl, h⟩
section
variable {prog : Program} {w : World} {A : Around} {E : Value → Shared → Prop} {s : Shared}
theorem en1_begins {v : Value} {o : Obj} {H : Heap → Prop} {Q : Value → Shared → Prop} (B : Begins v o H) (h1 : H s.heap)
    (h : ∀ h', IsEnum h' (s.heap.objs.size + 1) s.heap.objs.size 0 .none → h'.get? s.heap.objs.size = some o → (∀ b o, s.heap.get? b = some o → h'.get? b = some o) → Q (.ref (s.heap.objs.size + 1)) { s with heap := h' }) :
    wpAny (model prog w) A (call (.type "enumerate") [v]) Q E s := by
  refine callType_new F.called_enumerate (by decide) (F.typeCall_enumerate_1 _) (F.newCall_enumerate_1 _) (fun obj => F.args_object_init_2 obj _) F.entry_enumerate_new (meets_en1 B) ⟨h1, ?_⟩
  have hz : (s.heap.push o).objs.size = s.heap.objs.size + 1 := Heap.size_push ..
  show _ ∧ _
  rw [hz]
  have he : IsEnum ((s.heap.push o).push { cls := .type "enumerate", data := .fields #[.none, .bool false, .ref s.heap.objs.size, rawInt 0, .none, .none] }) (s.heap.objs.size + 1) s.heap.objs.size 0 .none := by
    have q := Heap.get?_push_size (s.heap.push o) (o := { cls := .type "enumerate", data := .fields #[.none, .bool false, .ref s.heap.objs.size, rawInt 0, .none, .none] }) rfl
    rw [hz] at q; exact q
  exact ⟨⟨_, he, rfl⟩, h _ he (Heap.get?_push_of_some _ (Heap.get?_push_size _ B.free)) fun b o x => Heap.get?_push_of_some _ (Heap.get?_push_of_some _ x)⟩
end
/-- an iterator of a source begins -/
theorem Kv.begin {X : Cx} {pins : List (Addr × Obj)} {σ : St} {H : Hp} {s : Shared} {κ : Kv} {vs : List V} {u : Value} (I : Inv X pins σ H s) (h : κ.src X.K H vs) (r : RelV κ.v u) :
    ∃ (t : Tok) (o : Obj) (G : Heap → Prop), Begins u o G ∧ G s.heap ∧ ∀ h' it, h'.get? it = some o → κ.cell it t 0 h' := by
  cases κ with
  | ls a =>
    cases r
    obtain ⟨its, rv, p, _⟩ := I.list h
    exact ⟨0, _, _, begins_list a its.toArray, p.isList, fun h' it e => ⟨_, e, rfl, rfl⟩⟩
  | tp a =>
    cases r
    obtain ⟨its, rv, p, _⟩ := I.tuple h
    exact ⟨0, _, _, begins_tuple a its.toArray, p, fun h' it e => ⟨_, e, rfl, rfl⟩⟩
  | tx x =>
    obtain ⟨t, rfl⟩ := r
    exact ⟨t, _, _, begins_text x t, trivial, fun h' it e => ⟨_, e, rfl, rfl⟩⟩
def iEn (K : PySem.W.Frag) (ta : TA) : TI := fun σ H R => ta σ H fun vs H1 => ∃ κ : Kv, vs = [κ.v] ∧ (∃ xs, κ.src K H1 xs) ∧ R (ItE K κ) H1
theorem pi_en {X : Cx} {e : Expr} {ta : TA} {p pos tpos : Pos} {elts : List Expr} {kk : Nat} (hg : Gl X "enumerate") (hm : X.mg "enumerate" = none) (ha : PA X [e] ta) (hs : starEach [e] X.env = [(false, eval e X.env)] := by rfl) :
    PI X (.Tuple elts kk tpos) (.Call (.Name "enumerate" p) [e] [] pos) (iEn X.K ta) := by
  refine ⟨fun pins s σ H R I h => ?_⟩
  refine Call_ (ld_blt I hg hm boot_enumerate (PyProof.Rows.callWith_type1 (thn (ha.run pos pins s σ H _ I h) ?_) hs rfl))
  rintro us s1 ⟨vs, H1, I1, r1, κ, rfl, ⟨xs, hsrc⟩, q⟩
  obtain ⟨u, rfl, ru⟩ := vals1 r1
  obtain ⟨t, o, G, B, g, cell⟩ := κ.begin I1 hsrc ru
  refine en1_begins B g fun h' he ho hk => wpAny_pyIter_enum he ?_
  have I2 : Inv X pins σ H1 { s1 with heap := h' } := I1.kept (t' := s1.toks) hk
  refine ⟨s1.heap.objs.size + 1, [s1.heap.objs.size + 1, s1.heap.objs.size], _, _, H1, rfl, I2, turn_en κ (s1.heap.objs.size + 1) s1.heap.objs.size t, ⟨⟨.none, he⟩, cell _ _ ho, Nat.succ_ne_self _⟩, fun b hb => ?_, q⟩
  have hle : s1.heap.objs.size ≤ b := by
    have e' : b = s1.heap.objs.size + 1 ∨ b = s1.heap.objs.size := by simpa using hb
    rcases e' with z | z <;> rw [z]
    · exact Nat.le_add_right _ _
    · exact Nat.le_refl _
  exact I1.fpOk hle (I1.hok.fresh hle)
def iZp (K : PySem.W.Frag) (ta : TA) : TI := fun σ H R => ta σ H fun vs H1 => ∃ κ κ' : Kv, vs = [κ.v, κ'.v] ∧ (∃ xs, κ.src K H1 xs) ∧ (∃ xs, κ'.src K H1 xs) ∧ R (ItZ K κ κ') H1
theorem pi_zp {X : Cx} {e e2 : Expr} {ta : TA} {p pos tpos : Pos} {elts : List Expr} {kk : Nat} (hg : Gl X "zip") (hm : X.mg "zip" = none) (ha : PA X [e, e2] ta)
    (hs : starEach [e, e2] X.env = (false, eval e X.env) :: starEach [e2] X.env := by rfl) (hpl : (backTo pos (starEach [e2] X.env)).any (·.1) = false := by rfl) :
    PI X (.Tuple elts kk tpos) (.Call (.Name "zip" p) [e, e2] [] pos) (iZp X.K ta) := by
  refine ⟨fun pins s σ H R I h => ?_⟩
  refine Call_ (ld_blt I hg hm PyProof.Rows.boot_zip (PyProof.Rows.callWith_type1 (thn (ha.run pos pins s σ H _ I h) ?_) hs hpl))
  rintro us s1 ⟨vs, H1, I1, r1, κ, κ', rfl, ⟨xs, h1⟩, ⟨ys, h2⟩, q⟩
  obtain ⟨u1, u2, rfl, ru1, ru2⟩ := vals2 r1
  obtain ⟨t1, o1, G1, B1, g1, c1⟩ := κ.begin I1 h1 ru1
  obtain ⟨t2, o2, G2, B2, g2, c2⟩ := κ'.begin I1 h2 ru2
  refine zip_begins2 B1 B2 g1 g2 fun h' hz hTI hTO e1 e2 _ hk => wpAny_pyIter_zip hz ?_
  have I2 : Inv X pins σ H1 { s1 with heap := h' } := I1.kept (t' := s1.toks) hk
  have A : ZA (s1.heap.objs.size + 4) (s1.heap.objs.size + 2) (s1.heap.objs.size + 3) s1.heap.objs.size (s1.heap.objs.size + 1) := by
    have aux : ∀ n : Nat, ZA (n + 4 : Nat) (n + 2 : Nat) (n + 3 : Nat) n (n + 1 : Nat) := fun n => by
      constructor <;> · intro z; have z' : (_ : Nat) = _ := z; omega
    exact aux _
  refine ⟨s1.heap.objs.size + 4, [s1.heap.objs.size + 4, s1.heap.objs.size + 2, s1.heap.objs.size + 3, s1.heap.objs.size, s1.heap.objs.size + 1], _, _, H1, rfl, I2, turn_zp κ κ' t1 t2 A, ⟨hz, hTI, ⟨_, _, hTO⟩, c1 _ _ e1, c2 _ _ e2⟩, fun c hcm => ?_, q⟩
  have hle : s1.heap.objs.size ≤ c := by
    have e' : c = s1.heap.objs.size + 4 ∨ c = s1.heap.objs.size + 2 ∨ c = s1.heap.objs.size + 3 ∨ c = s1.heap.objs.size ∨ c = s1.heap.objs.size + 1 := by simpa using hcm
    rcases e' with z | z | z | z | z <;> rw [z]
    · exact Nat.le_add_right _ _
    · exact Nat.le_add_right _ _
    · exact Nat.le_add_right _ _
    · exact Nat.le_refl _
    · exact Nat.le_add_right _ _
  exact I1.fpOk hle (I1.hok.fresh hle)
/-- a list, a tuple or a text itself -/
def ItK (K : PySem.W.Frag) : Kv → It
  | .ls a => Itl K a
  | .tp a => Itt K a
  | .tx x => Its x
def iAny (K : PySem.W.Frag) (te : TE) : TI := fun σ H R => te σ H fun v H1 => ∃ κ : Kv, v = κ.v ∧ (∃ xs, κ.src K H1 xs) ∧ R (ItK K κ) H1
theorem pi_any {X : Cx} {tg e : Expr} {te : TE} (he : PE X e te) : PI X tg e (iAny X.K te) := by
  refine ⟨fun pins s σ H R I h => ?_⟩
  refine thn (he.run pins s σ H _ I h) ?_
  rintro u s1 ⟨v, H1, I1, ru, κ, rfl, ⟨xs, hsrc⟩, q⟩
  cases κ with
  | ls a =>
    cases ru
    obtain ⟨its, rv, p, _⟩ := I1.list hsrc
    exact wpAny_pyIter_list p.isList (pi_one (tk := s1.toks) I1 _ (turn_list a _) ⟨_, Heap.get?_push_size _ rfl, rfl, rfl⟩ q)
  | tp a =>
    cases ru
    obtain ⟨its, rv, p, _⟩ := I1.tuple hsrc
    exact wpAny_pyIter_tuple (show s1.heap.IsTuple a its.toArray from p) (pi_one (tk := s1.toks) I1 _ (turn_tuple a _) ⟨_, Heap.get?_push_size _ rfl, rfl, rfl⟩ q)
  | tx x =>
    obtain ⟨t, rfl⟩ := ru
    cases ha : x.cps.all (· < 128)
    · exact wpAny_pyIter_wide ha (pi_one (tk := s1.toks) I1 _ (turn_str _ x t "str_iterator" (.inr rfl)) ⟨_, Heap.get?_push_size _ rfl, rfl, rfl⟩ q)
    · exact wpAny_pyIter_ascii ha (pi_one (tk := s1.toks) I1 _ (turn_str _ x t "str_ascii_iterator" (.inl rfl)) ⟨_, Heap.get?_push_size _ rfl, rfl, rfl⟩ q)

/-! ### as data -/
def chsD (x : Str) : List D := x.cps.toList.map fun c => PyData.str ⟨#[c]⟩
/-- what is yielded, as data -/
def itemsD : D → Option (List D)
  | .list ds => some ds
  | .tuple ds => some ds
  | .str x => some (chsD x)
  | _ => none
section
variable {K : PySem.W.Frag} {F : Addr → Prop} {H : Hp} {v : V} {d : D} {ds : List D}
theorem fz_chs (x : Str) : FzAll K F H (chs x) (chsD x) := by
  unfold chs chsD
  induction x.cps.toList with
  | nil => exact .nil
  | cons c l ih => exact .cons (.str _) ih
/-- the source with this data -/
def Kv.is (κ : Kv) (K : PySem.W.Frag) (F : Addr → Prop) (H : Hp) (ds : List D) : Prop := ∃ vs, κ.src K H vs ∧ FzAll K F H vs ds
/-- a frozen source stays -/
def Stay (K : PySem.W.Frag) (F : Addr → Prop) (H : Hp) (κ : Kv) (ds : List D) : Prop := ∀ F' H', (∀ a, F a → F' a) → (∀ a o, H a = some o → (F a ∨ ¬ Mut (some o)) → H' a = some o) → κ.is K F' H' ds
theorem Stay.now {κ : Kv} (h : Stay K F H κ ds) : κ.is K F H ds := h F H (fun _ z => z) fun _ _ e _ => e
theorem Fz.kv (h : Fz K F H v d) (e : itemsD d = some ds) : ∃ κ : Kv, v = κ.v ∧ Stay K F H κ ds := by
  unfold itemsD at e
  split at e
  · cases e
    obtain ⟨p, xs, rfl, _, _⟩ := Br.list (.inl h)
    refine ⟨.ls p, rfl, fun F' H' hF hk => ?_⟩
    obtain ⟨p', xs', e', h1, z⟩ := Br.list (.inl (h.mono hF hk))
    cases e'
    exact ⟨xs', h1.sq, z⟩
  · cases e
    obtain ⟨p, xs, rfl, _, _⟩ := Br.tup (.inl h)
    refine ⟨.tp p, rfl, fun F' H' hF hk => ?_⟩
    obtain ⟨p', xs', e', h1, z⟩ := Br.tup (.inl (h.mono hF hk))
    cases e'
    exact ⟨xs', h1, z⟩
  · cases e
    rename_i x
    exact ⟨.tx x, Br.str (.inl h), fun F' H' hF hk => ⟨_, rfl, fz_chs x⟩⟩
  · cases e
theorem Stay.step {F1 : Addr → Prop} {H1 : Hp} {κ : Kv} (h : Stay K F H κ ds) (hF : ∀ a, F a → F1 a) (hk : ∀ a o, H a = some o → (F a ∨ ¬ Mut (some o)) → H1 a = some o) : Stay K F1 H1 κ ds := fun F' H' hF' hk' =>
  h F' H' (fun a z => hF' a (hF a z)) fun a o e q => hk' a o (hk a o e q) (q.imp (hF a) id)

/-! ### walks -/
theorem walk_any {κ : Kv} (h : Stay K F H κ ds) : Walk K (ItK K κ) ds F H := fun F' H' i hF hk fd => by
  obtain ⟨vs, s, z⟩ := h F' H' hF hk
  have zl := z.length
  refine ⟨fun d e => ?_, fun e => ?_⟩
  · obtain ⟨x, ex, fx⟩ := z.get e
    have il : i < vs.length := (List.getElem?_eq_some_iff.mp ex).1
    cases κ with
    | ls a => exact ⟨⟨vs, x, s, ex⟩, fun y H'' ⟨e1, e2⟩ => by
        subst e1
        have := e2 vs s
        rw [ex] at this
        cases this
        exact ⟨F', Grow.refl, fx⟩⟩
    | tp a => exact ⟨⟨vs, x, s, ex⟩, fun y H'' ⟨e1, e2⟩ => by
        subst e1
        have := e2 vs s
        rw [ex] at this
        cases this
        exact ⟨F', Grow.refl, fx⟩⟩
    | tx w =>
      have es : vs = chs w := s
      subst es
      refine ⟨show i < w.cps.size by simpa [chs] using il, fun y H'' ⟨e1, c, e2, e3⟩ => ?_⟩
      subst e1
      subst e3
      have e2' : w.cps.toList[i]? = some c := by simpa using e2
      have : x = V.str ⟨#[c]⟩ := by
        simp [chs, e2'] at ex
        exact ex.symm
      subst this
      exact ⟨F', Grow.refl, fx⟩
  · cases κ with
    | ls a => exact ⟨vs, s, by omega⟩
    | tp a => exact ⟨vs, s, by omega⟩
    | tx w =>
      have es : vs = chs w := s
      subst es
      exact show w.cps.size ≤ i by simp [chs] at zl; omega
def enumL : Nat → List D → List D
  | _, [] => []
  | n, d :: ds => .tuple [.int (n : Nat), d] :: enumL (n + 1) ds
theorem enumL_length : ∀ (ds : List D) (n : Nat), (enumL n ds).length = ds.length
  | [], _ => rfl
  | _ :: ds, n => by simp [enumL, enumL_length ds]
theorem enumL_get : ∀ {ds : List D} {n i : Nat} {d : D}, (enumL n ds)[i]? = some d → ∃ d', ds[i]? = some d' ∧ d = .tuple [.int ((n + i : Nat)), d']
  | [], _, _, _, h => by simp [enumL] at h
  | x :: ds, n, 0, d, h => by simp [enumL] at h; exact ⟨x, rfl, h.symm⟩
  | x :: ds, n, i + 1, d, h => by
    obtain ⟨d', h1, h2⟩ := enumL_get (ds := ds) (n := n + 1) (i := i) (d := d) (by simpa [enumL] using h)
    exact ⟨d', by simpa using h1, by rw [h2, show n + 1 + i = n + (i + 1) by omega]⟩
theorem walk_en {κ : Kv} (h : Stay K F H κ ds) : Walk K (ItE K κ) (enumL 0 ds) F H := fun F' H' i hF hk fd => by
  obtain ⟨vs, s, z⟩ := h F' H' hF hk
  have zl := z.length
  refine ⟨fun d e => ?_, fun e => ?_⟩
  · obtain ⟨d', e1, rfl⟩ := enumL_get e
    obtain ⟨x, ex, fx⟩ := z.get e1
    refine ⟨⟨vs, x, s, ex⟩, fun y H'' ⟨T, x', e1, e2, e3, e4⟩ => ?_⟩
    subst e1
    subst e3
    have := e4 vs s
    rw [ex] at this
    cases this
    have G : Grow F' H' F' (upd H' T (.tup [.int (i : Nat), x])) := Grow.new1 e2
    refine ⟨F', G, .tup (SqT.of upd_same) (.cons ?_ (.cons (G.fz fx) .nil))⟩
    rw [Nat.zero_add]
    exact .int _
  · rw [enumL_length] at e
    exact ⟨vs, s, by omega⟩
def zipL : List D → List D → List D
  | x :: xs, y :: ys => .tuple [x, y] :: zipL xs ys
  | _, _ => []
theorem zipL_length : ∀ (xs ys : List D), (zipL xs ys).length = min xs.length ys.length
  | [], ys => by simp [zipL]
  | _ :: _, [] => by simp [zipL]
  | _ :: xs, _ :: ys => by simp [zipL, zipL_length xs ys]
theorem zipL_get : ∀ {xs ys : List D} {i : Nat} {d : D}, (zipL xs ys)[i]? = some d → ∃ x y, xs[i]? = some x ∧ ys[i]? = some y ∧ d = .tuple [x, y]
  | [], _, _, _, h => by simp [zipL] at h
  | _ :: _, [], _, _, h => by simp [zipL] at h
  | x :: xs, y :: ys, 0, d, h => by simp [zipL] at h; exact ⟨x, y, rfl, rfl, h.symm⟩
  | x :: xs, y :: ys, i + 1, d, h => by
    obtain ⟨a, b, h1, h2, h3⟩ := zipL_get (xs := xs) (ys := ys) (i := i) (d := d) (by simpa [zipL] using h)
    exact ⟨a, b, by simpa using h1, by simpa using h2, h3⟩
theorem walk_zp {κ κ' : Kv} {es : List D} (h : Stay K F H κ ds) (h' : Stay K F H κ' es) : Walk K (ItZ K κ κ') (zipL ds es) F H := fun F' H' i hF hk fd => by
  obtain ⟨vs, s, z⟩ := h F' H' hF hk
  obtain ⟨ws, s', z'⟩ := h' F' H' hF hk
  have zl := z.length
  have zl' := z'.length
  refine ⟨fun d e => ?_, fun e => ?_⟩
  · obtain ⟨d1, d2, e1, e2, rfl⟩ := zipL_get e
    obtain ⟨x, ex, fx⟩ := z.get e1
    obtain ⟨y, ey, fy⟩ := z'.get e2
    refine ⟨⟨vs, ws, x, y, s, s', ex, ey⟩, fun v H'' ⟨T, x', y', q1, q2, q3, q4, q5⟩ => ?_⟩
    subst q1
    subst q3
    have r1 := q4 vs s
    have r2 := q5 ws s'
    rw [ex] at r1
    rw [ey] at r2
    cases r1
    cases r2
    have G : Grow F' H' F' (upd H' T (.tup [x, y])) := Grow.new1 q2
    exact ⟨F', G, .tup (SqT.of upd_same) (.cons (G.fz fx) (.cons (G.fz fy) .nil))⟩
  · rw [zipL_length] at e
    exact ⟨vs, ws, s, s', by omega⟩
def rngL (lo : Int) (n : Nat) : List D := (List.range n).map fun i => .int (lo + (i : Nat))
theorem walk_rg {lo : Int} {n : Nat} : Walk K (Itr lo n) (rngL lo n) F H := fun F' H' i hF hk fd => by
  refine ⟨fun d e => ?_, fun e => ?_⟩
  · have hi : i < n := by
      have := (List.getElem?_eq_some_iff.mp e).1
      simpa [rngL] using this
    have ed : d = .int (lo + (i : Nat)) := by
      simp [rngL, hi] at e
      exact e.symm
    subst ed
    refine ⟨hi, fun y H'' ⟨e1, e2⟩ => ?_⟩
    subst e1
    subst e2
    exact ⟨F', Grow.refl, .int _⟩
  · have : i = n := by simpa [rngL] using e
    exact show n ≤ i by omega
end
/-! ### the iterables -/
section
variable {X : Cx} {a0 : Addr} {tg e e2 : Expr} {f g : Fn} {fa : Fa} {elts : List Expr} {kk : Nat} {p pos tpos : Pos}
def itF (f : Fn) : Fi := fun env => (f env).bind fun x => (itemsD x.1).map fun ds => (ds, x.2)
theorem si_any (he : SE X a0 e f) : SI X a0 tg e (itF f) := by
  refine ⟨PIimp (pi_any he.run) fun σ H R ⟨F, env, Rl, ds, env', q, k⟩ => ?_⟩
  obtain ⟨⟨d, env1⟩, q1, q⟩ := Option.bind_eq_some_iff.mp q
  obtain ⟨ds', q2, q⟩ := Option.map_eq_some_iff.mp q
  cases q
  refine ⟨F, env, Rl, d, env1, q1, fun v F1 H1 S1 R1 z => ?_⟩
  obtain ⟨κ, rfl, st⟩ := z.kv q2
  obtain ⟨vs, s, _⟩ := st.now
  exact ⟨κ, rfl, ⟨vs, s⟩, k _ F1 H1 S1 R1 (walk_any st)⟩
def enF (f : Fa) : Fi := fun env => (f env).bind fun x => match x.1 with
  | [d] => (itemsD d).map fun ds => (enumL 0 ds, x.2)
  | _ => none
theorem si_en (hg : Gl X "enumerate") (hm : X.mg "enumerate" = none) (ha : SF X a0 [e] fa) (hs : starEach [e] X.env = [(false, eval e X.env)] := by rfl) : SI X a0 (.Tuple elts kk tpos) (.Call (.Name "enumerate" p) [e] [] pos) (enF fa) := by
  obtain ⟨ts, _, h2, h3⟩ := ha.ex
  refine ⟨PIimp (pi_en hg hm h2 hs) fun σ H R ⟨F, env, Rl, ds, env', q, k⟩ => h3 σ H _ ?_⟩
  obtain ⟨⟨l, env1⟩, q1, q⟩ := Option.bind_eq_some_iff.mp q
  match l, q1, q with
  | [d], q1, q =>
    obtain ⟨ds', q2, q⟩ := Option.map_eq_some_iff.mp q
    cases q
    refine ⟨F, env, Rl, _, env1, q1, fun vs F1 H1 S1 R1 z => ?_⟩
    cases z with
    | cons z z' =>
      cases z'
      obtain ⟨κ, rfl, st⟩ := z.kv q2
      obtain ⟨ws, s, _⟩ := st.now
      exact ⟨κ, rfl, ⟨ws, s⟩, k _ F1 H1 S1 R1 (walk_en st)⟩
  | [], _, q => exact nomatch q
  | _ :: _ :: _, _, q => exact nomatch q
def zpF (f : Fa) : Fi := fun env => (f env).bind fun x => match x.1 with
  | [d, d'] => (itemsD d).bind fun ds => (itemsD d').map fun es => (zipL ds es, x.2)
  | _ => none
theorem si_zp (hg : Gl X "zip") (hm : X.mg "zip" = none) (ha : SF X a0 [e, e2] fa) (hs : starEach [e, e2] X.env = (false, eval e X.env) :: starEach [e2] X.env := by rfl) (hpl : (backTo pos (starEach [e2] X.env)).any (·.1) = false := by rfl) :
    SI X a0 (.Tuple elts kk tpos) (.Call (.Name "zip" p) [e, e2] [] pos) (zpF fa) := by
  obtain ⟨ts, _, h2, h3⟩ := ha.ex
  refine ⟨PIimp (pi_zp hg hm h2 hs hpl) fun σ H R ⟨F, env, Rl, ds, env', q, k⟩ => h3 σ H _ ?_⟩
  obtain ⟨⟨l, env1⟩, q1, q⟩ := Option.bind_eq_some_iff.mp q
  match l, q1, q with
  | [d, d'], q1, q =>
    obtain ⟨ds', q2, q⟩ := Option.bind_eq_some_iff.mp q
    obtain ⟨es', q3, q⟩ := Option.map_eq_some_iff.mp q
    cases q
    refine ⟨F, env, Rl, _, env1, q1, fun vs F1 H1 S1 R1 z => ?_⟩
    cases z with
    | cons z z' =>
      cases z' with
      | cons y z' =>
        cases z'
        obtain ⟨κ, rfl, st⟩ := z.kv q2
        obtain ⟨κ', rfl, st'⟩ := y.kv q3
        obtain ⟨ws, s, _⟩ := st.now
        obtain ⟨ws', s', _⟩ := st'.now
        exact ⟨κ, κ', rfl, ⟨ws, s⟩, ⟨ws', s'⟩, k _ F1 H1 S1 R1 (walk_zp st st')⟩
  | [], _, q => exact nomatch q
  | [_], _, q => exact nomatch q
  | _ :: _ :: _ :: _, _, q => exact nomatch q
def okR (i : Int) : Bool := decide (-(2 ^ 62) ≤ i ∧ i < 2 ^ 62)
def rg1 (f : Fa) : Fi := fun env => (f env).bind fun x => match x.1 with
  | [.int j] => if okR j = true then some (rngL 0 j.toNat, x.2) else none
  | _ => none
theorem rg1_inv {f : Fa} {env env' : En} {ds : List D} (q : rg1 f env = some (ds, env')) : ∃ j, f env = some ([.int j], env') ∧ okR j = true ∧ ds = rngL 0 j.toNat := by
  obtain ⟨⟨l, env1⟩, q1, q⟩ := Option.bind_eq_some_iff.mp q
  dsimp only at q
  split at q
  · split at q
    · rename_i hc
      cases q
      exact ⟨_, q1, hc, rfl⟩
    · cases q
  · cases q
theorem si_rg1 (hg : Gl X "range") (hm : X.mg "range" = none) (ha : SA X a0 [e] fa) (hs : starEach [e] X.env = [(false, eval e X.env)] := by rfl) : SI X a0 tg (.Call (.Name "range" p) [e] [] pos) (rg1 fa) := by
  obtain ⟨ts, _, h2, h3⟩ := ha.ex
  refine ⟨PIimp (pi_range1 hg hm h2 hs) fun σ H R ⟨F, env, Rl, ds, env', q, k⟩ => h3 σ H _ ?_⟩
  obtain ⟨j, q1, hj, rfl⟩ := rg1_inv q
  have hj' := of_decide_eq_true hj
  refine ⟨F, env, Rl, _, _, q1, fun vs F1 H1 S1 R1 z => ?_⟩
  cases z with
  | cons z z' =>
    cases z'
    have := z.int
    subst this
    exact ⟨j, rfl, hj'.1, hj'.2, k _ F1 H1 S1 R1 walk_rg⟩
def rg2 (f : Fa) : Fi := fun env => (f env).bind fun x => match x.1 with
  | [.int i, .int j] => if (okR i && okR j) = true then some (rngL i (j - i).toNat, x.2) else none
  | _ => none
theorem rg2_inv {f : Fa} {env env' : En} {ds : List D} (q : rg2 f env = some (ds, env')) : ∃ i j, f env = some ([.int i, .int j], env') ∧ okR i = true ∧ okR j = true ∧ ds = rngL i (j - i).toNat := by
  obtain ⟨⟨l, env1⟩, q1, q⟩ := Option.bind_eq_some_iff.mp q
  dsimp only at q
  split at q
  · split at q
    · rename_i hc
      rw [Bool.and_eq_true] at hc
      cases q
      exact ⟨_, _, q1, hc.1, hc.2, rfl⟩
    · cases q
  · cases q
theorem si_rg2 (hg : Gl X "range") (hm : X.mg "range" = none) (ha : SA X a0 [e, e2] fa) (hs : starEach [e, e2] X.env = [(false, eval e X.env), (false, eval e2 X.env)] := by rfl) (hs2 : starEach [e2] X.env = [(false, eval e2 X.env)] := by rfl) :
    SI X a0 tg (.Call (.Name "range" p) [e, e2] [] pos) (rg2 fa) := by
  obtain ⟨ts, _, h2, h3⟩ := ha.ex
  refine ⟨PIimp (pi_range2 hg hm h2 hs hs2) fun σ H R ⟨F, env, Rl, ds, env', q, k⟩ => h3 σ H _ ?_⟩
  obtain ⟨i, j, q1, hi, hj, rfl⟩ := rg2_inv q
  have hi' := of_decide_eq_true hi
  have hj' := of_decide_eq_true hj
  refine ⟨F, env, Rl, _, _, q1, fun vs F1 H1 S1 R1 z => ?_⟩
  obtain ⟨x, y, rfl, bx, by_⟩ := two_of z
  have e1 := bx.int
  have e2 := by_.int
  subst e1
  subst e2
  exact ⟨i, j, rfl, ⟨hi'.1, hi'.2, hj'.1, hj'.2⟩, k _ F1 H1 S1 R1 walk_rg⟩
end
end Ew

/-! EwBlt: calls of built-ins, methods, changes of lists, stores at a place. -/
namespace Ew
open PySem L2

abbrev GN := List D → Option D
def rC (K : PySem.W.Frag) (g : GN) : List V → Hp → VK → Prop := fun xs H Q => ∃ F ds d, (∀ a : Addr, F a → H a ≠ none) ∧ BrAll K F H xs ds ∧ g ds = some d ∧ KP K F H Q d
def rCO (K : PySem.W.Frag) (g : GN) : List V → Hp → VK → Prop := fun xs H Q => ∃ F ds d, (∀ a : Addr, F a → H a ≠ none) ∧ BrAll K F H xs ds ∧ g ds = some d ∧ KO K F H Q d
def opN (g : GN) (f : Fa) : Fn := fun env => (f env).bind fun x => (g x.1).map fun d => (d, x.2)
theorem opN_inv {g : GN} {f : Fa} {env env' : En} {d : D} (q : opN g f env = some (d, env')) : ∃ ds, f env = some (ds, env') ∧ g ds = some d := by
  obtain ⟨⟨ds, env1⟩, q1, q⟩ := Option.bind_eq_some_iff.mp q
  obtain ⟨d', q2, q⟩ := Option.map_eq_some_iff.mp q
  cases q
  exact ⟨ds, q1, q2⟩
section
variable {X : Cx} {a0 : Addr} {id T : String} {x : Str} {p pos : Pos} {e : Expr} {es : List Expr} {fa : Fa} {g h : GN}
theorem CallR.orP {f : Value} (a : CallR X f (rC X.K g)) (b : CallR X f (rC X.K h)) : CallR X f (rC X.K fun ds => (g ds).or (h ds)) := by
  intro pins s σ H xs us Q I r ⟨F, ds, d, fd, z, q, k⟩
  cases e : g ds with
  | some d' =>
    simp only [e, Option.some_or] at q
    cases q
    exact a pins s σ H xs us Q I r ⟨F, ds, _, fd, z, e, k⟩
  | none =>
    simp only [e, Option.none_or] at q
    exact b pins s σ H xs us Q I r ⟨F, ds, _, fd, z, q, k⟩
theorem CallR.ofO {f : Value} (a : CallR X f (rCO X.K g)) : CallR X f (rC X.K g) := by
  intro pins s σ H xs us Q I r ⟨F, ds, d, fd, z, q, k⟩
  exact a pins s σ H xs us Q I r ⟨F, ds, d, fd, z, q, KP.ko k⟩
theorem c_run {ts : List TE} {σ : St} {H : Hp} {Q : VK} (h3 : ∀ σ H R, tAB X.K a0 fa σ H R → taOf ts σ H R) (h : tE X.K a0 (opN g fa) σ H Q) : tCB (rC X.K g) (taOf ts) σ H Q := by
  obtain ⟨F, env, R, d, env', q, k⟩ := h
  obtain ⟨ds, q1, q2⟩ := opN_inv q
  exact h3 σ H _ ⟨F, env, R, ds, env', q1, fun vs F1 H1 S1 R1 z => ⟨F1, ds, d, R1.fd, z, q2, fun v F' H' G fv => k v F' H' (S1.trans G.stp) (G.rel R1) fv⟩⟩
theorem co_run {ts : List TE} {σ : St} {H : Hp} {Q : VK} (h3 : ∀ σ H R, tAB X.K a0 fa σ H R → taOf ts σ H R) (h : tO X.K a0 (opN g fa) σ H Q) : tCB (rCO X.K g) (taOf ts) σ H Q := by
  obtain ⟨F, env, R, d, env', q, k⟩ := h
  obtain ⟨ds, q1, q2⟩ := opN_inv q
  exact h3 σ H _ ⟨F, env, R, ds, env', q1, fun vs F1 H1 S1 R1 z => ⟨F1, ds, d, R1.fd, z, q2, fun p F' H' G hp nf b => k p F' H' (S1.trans G.stp) (G.rel R1) (S1.new_of hp) nf (fun w => (R1.owned w).2.2 hp) b⟩⟩
theorem se_blt (hc : CallR X (.builtin id) (rC X.K g)) (hg : Gl X x) (hm : X.mg x = none) (hv : bootBuiltins x = some (.builtin id)) (ha : SA X a0 (e :: es) fa) (hn : x ≠ "__name__" := by decide) (hdb : (x == ("__debug__" : Str)) = false := by decide)
    (he : starEach (e :: es) X.env = (false, eval e X.env) :: starEach es X.env := by rfl) (hpl : (backTo pos (starEach es X.env)).any (·.1) = false := by rfl) : SE X a0 (.Call (.Name x p) (e :: es) [] pos) (opN g fa) := by
  obtain ⟨ts, _, h2, h3⟩ := ha.ex
  exact ⟨PEimp (pe_callB hc hg hm hv h2 hn hdb he hpl) fun σ H Q q => c_run h3 q⟩
theorem se_bty (hc : CallR X (.type T) (rC X.K g)) (hg : Gl X x) (hm : X.mg x = none) (hv : bootBuiltins x = some (.type T)) (ha : SA X a0 (e :: es) fa) (hn : x ≠ "__name__" := by decide) (hdb : (x == ("__debug__" : Str)) = false := by decide)
    (he : starEach (e :: es) X.env = (false, eval e X.env) :: starEach es X.env := by rfl) (hpl : (backTo pos (starEach es X.env)).any (·.1) = false := by rfl) : SE X a0 (.Call (.Name x p) (e :: es) [] pos) (opN g fa) := by
  obtain ⟨ts, _, h2, h3⟩ := ha.ex
  exact ⟨PEimp (pe_callTy hc hg hm hv h2 hn hdb he hpl) fun σ H Q q => c_run h3 q⟩
theorem so_bty (hc : CallR X (.type T) (rCO X.K g)) (hg : Gl X x) (hm : X.mg x = none) (hv : bootBuiltins x = some (.type T)) (ha : SA X a0 (e :: es) fa) (hn : x ≠ "__name__" := by decide) (hdb : (x == ("__debug__" : Str)) = false := by decide)
    (he : starEach (e :: es) X.env = (false, eval e X.env) :: starEach es X.env := by rfl) (hpl : (backTo pos (starEach es X.env)).any (·.1) = false := by rfl) : SO X a0 (.Call (.Name x p) (e :: es) [] pos) (opN g fa) := by
  obtain ⟨ts, _, h2, h3⟩ := ha.ex
  exact ⟨PEimp (pe_callTy hc hg hm hv h2 hn hdb he hpl) fun σ H Q q => co_run h3 q⟩
theorem one_of {F : Addr → Prop} {H : Hp} {vs : List V} {a : D} (h : BrAll X.K F H vs [a]) : ∃ x, vs = [x] ∧ Br X.K F H x a := by
  cases h with
  | cons h h' => cases h'; exact ⟨_, rfl, h⟩
/-! ### each built-in -/
def lenG : GN
  | [.list ds] => some (.int (ds.length : Nat))
  | [.tuple ds] => some (.int (ds.length : Nat))
  | [.str z] => if z.length ≤ Sz then some (.int (z.length : Nat)) else none
  | [.dict ds] => if ds.length ≤ Sz then some (.int (ds.length : Nat)) else none
  | _ => none
def absG : GN
  | [.int i] => some (.int (if i < 0 then -i else i))
  | _ => none
def maxG : GN
  | [.int i, .int j] => some (.int (if j > i then j else i))
  | _ => none
def minG : GN
  | [.int i, .int j] => some (.int (if j < i then j else i))
  | _ => none
def intG : GN
  | [.int i] => some (.int i)
  | [.bool b] => some (.int (if b then 1 else 0))
  | _ => none
def dmG : GN
  | [.int i, .int j] => if okDiv i j = true then some (.tuple [.int (i / j), .int (i % j)]) else none
  | _ => none
def bools : List D → Option (List Bool)
  | [] => some []
  | .bool b :: ds => (bools ds).map (b :: ·)
  | _ => none
def allG : GN
  | [.list ds] => (bools ds).map fun bs => .bool (bs.all fun b => b)
  | _ => none
def anyG : GN
  | [.list ds] => (bools ds).map fun bs => .bool (bs.any fun b => b)
  | _ => none
theorem bools_vals {K : PySem.W.Frag} {F : Addr → Prop} {H : Hp} : ∀ {ds : List D} {vs : List V} {bs : List Bool}, FzAll K F H vs ds → bools ds = some bs → vs = bs.map V.bl
  | [], _, _, .nil, e => by cases e; rfl
  | d :: ds, _, bs, .cons h t, e => by
    match d, h, e with
    | .bool b, h, e =>
      obtain ⟨bs', e1, e2⟩ := Option.map_eq_some_iff.mp (show (bools ds).map (b :: ·) = some bs from e)
      subst e2
      rw [List.map_cons, ← bools_vals t e1, fz_bool h]
    | .none, _, e => exact nomatch e
    | .int _, _, e => exact nomatch e
    | .str _, _, e => exact nomatch e
    | .list _, _, e => exact nomatch e
    | .tuple _, _, e => exact nomatch e
    | .dict _, _, e => exact nomatch e
theorem FzKv.length {K F H} : ∀ {kvs : List (Key × V)} {ds : List (D × D)}, FzKv K F H kvs ds → kvs.length = ds.length
  | _, _, .nil => rfl
  | _, _, .cons _ t => by simp [FzKv.length t]
theorem c_len : CallR X (.builtin "len") (rC X.K lenG) := by
  intro pins s σ H xs us Q I r ⟨F, ds, d, fd, z, q, k⟩
  unfold lenG at q
  split at q
  · cases q
    obtain ⟨x, rfl, b⟩ := one_of z
    obtain ⟨p, ys, rfl, h1, w⟩ := b.list
    exact call_len_seq pins s σ H _ us Q I r ⟨p, ys, rfl, .inl h1.sq, KP.fz k (by rw [w.length]; exact .int _)⟩
  · cases q
    obtain ⟨x, rfl, b⟩ := one_of z
    obtain ⟨p, ys, rfl, h1, w⟩ := b.tup
    exact call_len_seq pins s σ H _ us Q I r ⟨p, ys, rfl, .inr h1, KP.fz k (by rw [w.length]; exact .int _)⟩
  · split at q
    · rename_i hz
      cases q
      obtain ⟨x, rfl, b⟩ := one_of z
      exact call_len_str pins s σ H _ us Q I r ⟨_, by rw [b.str], sz_le hz, KP.fz k (.int _)⟩
    · cases q
  · split at q
    · rename_i hz
      cases q
      obtain ⟨x, rfl, b⟩ := one_of z
      obtain ⟨p, kvs, rfl, h1, w⟩ := b.dict
      exact call_lenD pins s σ H _ us Q I r ⟨p, kvs, rfl, h1, KP.fz k (by rw [w.length]; exact .int _)⟩
    · cases q
  · cases q
theorem c_abs : CallR X (.builtin "abs") (rC X.K absG) := by
  intro pins s σ H xs us Q I r ⟨F, ds, d, fd, z, q, k⟩
  unfold absG at q
  split at q
  · cases q
    obtain ⟨x, rfl, b⟩ := one_of z
    exact call_abs pins s σ H _ us Q I r ⟨_, by rw [b.int], KP.fz k (.int _)⟩
  · cases q
theorem c_max (hc : X.calm = true) : CallR X (.builtin "max") (rC X.K maxG) := by
  intro pins s σ H xs us Q I r ⟨F, ds, d, fd, z, q, k⟩
  unfold maxG at q
  split at q
  · cases q
    obtain ⟨x, y, rfl, b, c⟩ := two_of z
    exact call_max2 hc pins s σ H _ us Q I r ⟨_, _, by rw [b.int, c.int], KP.fz k (.int _)⟩
  · cases q
theorem c_min (hc : X.calm = true) : CallR X (.builtin "min") (rC X.K minG) := by
  intro pins s σ H xs us Q I r ⟨F, ds, d, fd, z, q, k⟩
  unfold minG at q
  split at q
  · cases q
    obtain ⟨x, y, rfl, b, c⟩ := two_of z
    exact call_min2 hc pins s σ H _ us Q I r ⟨_, _, by rw [b.int, c.int], KP.fz k (.int _)⟩
  · cases q
theorem c_int : CallR X (.type "int") (rC X.K intG) := by
  intro pins s σ H xs us Q I r ⟨F, ds, d, fd, z, q, k⟩
  unfold intG at q
  split at q
  · cases q
    obtain ⟨x, rfl, b⟩ := one_of z
    exact call_int1 pins s σ H _ us Q I r (.inl ⟨_, by rw [b.int], KP.fz k (.int _)⟩)
  · cases q
    obtain ⟨x, rfl, b⟩ := one_of z
    exact call_int1 pins s σ H _ us Q I r (.inr ⟨_, by rw [b.bl], KP.fz k (.int _)⟩)
  · cases q
theorem c_divmod : CallR X (.builtin "divmod") (rC X.K dmG) := by
  intro pins s σ H xs us Q I r ⟨F, ds, d, fd, z, q, k⟩
  unfold dmG at q
  split at q
  · split at q
    · rename_i hc
      cases q
      obtain ⟨x, y, rfl, b, c⟩ := two_of z
      exact call_divmod pins s σ H _ us Q I r ⟨_, _, by rw [b.int, c.int], by simpa [okDiv, CDiv] using hc, fun p hp => KP.tup k (.cons (.int _) (.cons (.int _) .nil)) hp⟩
    · cases q
  · cases q
theorem c_all (hc : X.calm = true) : CallR X (.builtin "all") (rC X.K allG) := by
  intro pins s σ H xs us Q I r ⟨F, ds, d, fd, z, q, k⟩
  unfold allG at q
  split at q
  · obtain ⟨bs, e1, e2⟩ := Option.map_eq_some_iff.mp q
    subst e2
    obtain ⟨x, rfl, b⟩ := one_of z
    obtain ⟨p, ys, rfl, h1, w⟩ := b.list
    exact cr_all hc pins s σ H _ us Q I r ⟨p, bs, rfl, by rw [← bools_vals w e1]; exact h1.sq, KP.fz k (.bl _)⟩
  · cases q
theorem c_any (hc : X.calm = true) : CallR X (.builtin "any") (rC X.K anyG) := by
  intro pins s σ H xs us Q I r ⟨F, ds, d, fd, z, q, k⟩
  unfold anyG at q
  split at q
  · obtain ⟨bs, e1, e2⟩ := Option.map_eq_some_iff.mp q
    subst e2
    obtain ⟨x, rfl, b⟩ := one_of z
    obtain ⟨p, ys, rfl, h1, w⟩ := b.list
    exact cr_any hc pins s σ H _ us Q I r ⟨p, bs, rfl, by rw [← bools_vals w e1]; exact h1.sq, KP.fz k (.bl _)⟩
  · cases q
/-! ### tuple(..), list(..) -/
def tupG1 : GN
  | [.list ds] => some (.tuple ds)
  | [.tuple ds] => some (.tuple ds)
  | [.str z] => if z.length ≤ Sz then some (.tuple (chsD z)) else none
  | _ => none
def lisG : GN
  | [.list ds] => some (.list ds)
  | [.tuple ds] => some (.list ds)
  | [.str z] => if z.length ≤ Sz then some (.list (chsD z)) else none
  | _ => none
theorem vals_chs {x : Str} {acc : Array Value} (h : ItemsOf (SignAt x) acc x.cps.size) : Vals (chs x) acc.toList := by
  have hl : (chs x).length = acc.toList.length := by simp [chs, h.1]
  have key : ∀ (n : Nat) (vs : List V) (us : List Value), vs.length = us.length → us.length = n → (∀ (j : Nat) (v : V) (u : Value), vs[j]? = some v → us[j]? = some u → RelV v u) → Vals vs us := by
    intro n
    induction n with
    | zero =>
      intro vs us h1 h2 _
      cases us with
      | nil => cases vs with
        | nil => exact .nil
        | cons _ _ => simp at h1
      | cons _ _ => simp at h2
    | succ n ih =>
      intro vs us h1 h2 h3
      cases us with
      | nil => simp at h2
      | cons u us =>
        cases vs with
        | nil => simp at h1
        | cons v vs => exact .cons (h3 0 v u rfl rfl) (ih vs us (by simpa using h1) (by simpa using h2) fun j a b ea eb => h3 (j + 1) a b (by simpa using ea) (by simpa using eb))
  refine key _ _ _ hl rfl fun j v u ev eu => ?_
  have eu' : acc[j]? = some u := by simpa using eu
  obtain ⟨c, t, e1, e2⟩ := h.2 j u eu'
  subst e2
  have e1' : x.cps.toList[j]? = some c := by simpa using e1
  simp [chs, e1'] at ev
  subst ev
  exact ⟨t, rfl⟩
theorem c_tuple (hc : X.calm = true) : CallR X (.type "tuple") (rC X.K tupG1) := by
  intro pins s σ H xs us Q I r ⟨F, ds, d, fd, z, q, k⟩
  unfold tupG1 at q
  split at q
  · cases q
    obtain ⟨x, rfl, b⟩ := one_of z
    obtain ⟨p, ys, rfl, h1, w⟩ := b.list
    exact call_tuple_of pins s σ H _ us Q I r ⟨p, ys, rfl, .inl ⟨h1.sq, fun l hl => KP.tup k w hl⟩⟩
  · cases q
    obtain ⟨x, rfl, b⟩ := one_of z
    have fx := b.tupFz
    obtain ⟨p, ys, rfl, h1, w⟩ := b.tup
    exact call_tuple_of pins s σ H _ us Q I r ⟨p, ys, rfl, .inr ⟨h1, KP.fz k fx⟩⟩
  · split at q
    · rename_i zz hz
      cases q
      obtain ⟨x, rfl, b⟩ := one_of z
      have ex := b.str
      subst ex
      obtain ⟨u, rfl, t, rfl⟩ := vals1 r
      have hzs : zz.cps.size ≤ sizeLine := by have := sz_le hz; simpa [Str.length] using this
      refine call_tuple_str (I.ok.hd hc) zz t (fun h' tk acc hk hi => ?_) hzs
      have I1 : Inv X pins σ H { s with heap := h', toks := tk } := I.kept (t' := tk) hk
      refine ⟨.ref h'.objs.size, _, I1.laid (t' := tk) (o := .tup (chs zz)) (fun b o e => Heap.get?_push_of_some _ e) (Nat.le_refl _) ⟨by simpa [chs] using hzs, acc.toList, vals_chs hi, PyProof.Rows.IsTup.new _ _⟩, rfl, KP.tup k (fz_chs zz) (I1.hok.fresh (Nat.le_refl _))⟩
    · cases q
  · cases q
theorem c_list (hc : X.calm = true) : CallR X (.type "list") (rCO X.K lisG) := by
  intro pins s σ H xs us Q I r ⟨F, ds, d, fd, z, q, k⟩
  unfold lisG at q
  split at q
  · cases q
    obtain ⟨x, rfl, b⟩ := one_of z
    obtain ⟨p, ys, rfl, h1, w⟩ := b.list
    exact call_list_of pins s σ H _ us Q I r ⟨p, ys, rfl, .inl h1.sq, fun l hl => KO.lst fd k w hl⟩
  · cases q
    obtain ⟨x, rfl, b⟩ := one_of z
    obtain ⟨p, ys, rfl, h1, w⟩ := b.tup
    exact call_list_of pins s σ H _ us Q I r ⟨p, ys, rfl, .inr h1, fun l hl => KO.lst fd k w hl⟩
  · split at q
    · rename_i zz hz
      cases q
      obtain ⟨x, rfl, b⟩ := one_of z
      have ex := b.str
      subst ex
      obtain ⟨u, rfl, t, rfl⟩ := vals1 r
      have hzs : zz.cps.size ≤ sizeLine := by have := sz_le hz; simpa [Str.length] using this
      refine call_list_str (I.ok.hd hc) zz t (fun h' tk acc c hk hget hi => ?_) hzs
      refine ⟨.ref s.heap.objs.size, _, I.laid (t' := tk) (o := .lst (chs zz)) hk (Nat.le_refl _) ⟨by simpa [chs] using hzs, acc.toList, c, vals_chs hi, by simpa using hget⟩, rfl, KO.lst fd k (fz_chs zz) I.fresh⟩
    · cases q
  · cases q
end
end Ew

/-! EwBlt2: repr, isinstance; methods; changes of lists; stores at a place. -/
namespace Ew
open PySem L2

section
variable {X : Cx} {a0 : Addr} {id T : String} {x : Str} {p pos : Pos} {e : Expr} {es : List Expr} {fa : Fa}
/-! ### repr -/
def reprG : GN
  | [d] => if (SeqAt.shaped d && d.showable && decide (d.shown.length ≤ Sz)) = true then some (.str d.shown) else none
  | _ => none
theorem c_repr (hg : X.A.guards = some []) (hu : X.A.units + 100 < cLine) : CallR X (.builtin "repr") (rC X.K reprG) := by
  intro pins s σ H xs us Q I r ⟨F, ds, d, fd, z, q, k⟩
  unfold reprG at q
  split at q
  · rename_i a
    split at q
    · rename_i hc
      cases q
      rw [Bool.and_eq_true, Bool.and_eq_true] at hc
      obtain ⟨⟨c1, c2⟩, c3⟩ := hc
      have c3' := of_decide_eq_true c3
      have cl := SeqAt.canLay_of_shaped c1
      have dl := SeqAt.depth_of_shaped c1
      obtain ⟨x, rfl, b⟩ := one_of z
      obtain ⟨u, rfl, ru⟩ := vals1 r
      have dp := b.dp cl
      have fin : ∀ {u : Value} {tk : Nat}, (∃ t, u = Value.str a.shown t) → EP X pins σ Q u { s with toks := tk } := fun {u tk} ⟨t, e⟩ => ⟨.str a.shown, H, I.tok tk, ⟨t, e⟩, KP.fz k (.str _)⟩
      obtain ⟨as, rd⟩ := Dp.reads I a x u dp ru
      cases a with
      | none =>
        cases dp
        cases ru
        exact P.repr_of_none (fin ⟨s.toks, by simp only [PyData.shown]⟩)
      | bool bb =>
        cases dp
        cases ru
        refine P.repr_of_bool (fin ⟨s.toks, ?_⟩)
        simp only [PyData.shown]
      | int i =>
        cases dp
        obtain ⟨t, rfl⟩ := ru
        refine P.repr_of_int (by simpa [PyData.showable] using c2) (fin ⟨s.toks, ?_⟩)
        simp only [PyData.shown]
      | str w =>
        cases dp
        obtain ⟨t, rfl⟩ := ru
        refine P.repr_of_str (fin ⟨s.toks, ?_⟩) ?_
        · simp only [PyData.shown]
        · simp only [PyData.shown] at c3'
          exact sz_le c3'
      | list ds =>
        cases dp
        cases ru
        refine repr_of_reads' rd c2 (PyData.noDict_hsm (PyData.hasDict_of_canLay _ cl)) hg (by omega) (fun _ _ e => e) (fun h' t tk hk => ?_) (sz_le c3')
        exact ⟨.str _, H, I.kept (t' := tk) hk, ⟨t, rfl⟩, KP.fz k (.str _)⟩
      | tuple ds =>
        cases dp
        cases ru
        refine repr_of_reads' rd c2 (PyData.noDict_hsm (PyData.hasDict_of_canLay _ cl)) hg (by omega) (fun _ _ e => e) (fun h' t tk hk => ?_) (sz_le c3')
        exact ⟨.str _, H, I.kept (t' := tk) hk, ⟨t, rfl⟩, KP.fz k (.str _)⟩
      | dict ds => cases dp
    · cases q
  · cases q
/-! ### isinstance -/
inductive Ty where
  | tup | lst | str | int | bl | dic
def Ty.nm : Ty → String
  | .tup => "tuple"
  | .lst => "list"
  | .str => "str"
  | .int => "int"
  | .bl => "bool"
  | .dic => "dict"
def isA : Ty → D → Bool
  | .tup, .tuple _ => true
  | .lst, .list _ => true
  | .str, .str _ => true
  | .int, .int _ => true
  | .int, .bool _ => true
  | .bl, .bool _ => true
  | .dic, .dict _ => true
  | _, _ => false
def tyD : D → String
  | .none => "NoneType"
  | .bool _ => "bool"
  | .int _ => "int"
  | .str _ => "str"
  | .list _ => "list"
  | .tuple _ => "tuple"
  | .dict _ => "dict"
theorem isA_kit (t : Ty) (d : D) : kitB (tyD d) t.nm = some (isA t d) := by
  cases t <;> cases d <;> (simp only [tyD, Ty.nm, isA]; decide +kernel)
theorem Br.ty {K : PySem.W.Frag} {F : Addr → Prop} {H : Hp} {v : V} {d : D} (h : Br K F H v d) : TyX K H v (.type (tyD d)) := by
  cases d with
  | none => rw [h.non]; exact .base .non
  | bool b => rw [h.bl]; exact .base (.bl b)
  | int i => rw [h.int]; exact .base (.int i)
  | str s => rw [h.str]; exact .base (.str s)
  | list ds =>
    obtain ⟨p, xs, rfl, h1, _⟩ := h.list
    rcases h1 with h1 | ⟨o, h1⟩ | ⟨its, n, h1, _⟩
    · exact .base (.lst h1)
    · exact .base (.frz h1)
    · exact .kList h1 rfl
  | tuple ds =>
    obtain ⟨p, xs, rfl, h1, _⟩ := h.tup
    rcases h1 with (h1 | ⟨o, h1⟩) | ⟨o, its, n, h1, h2, _⟩
    · exact .base (.tup h1)
    · exact .fTuple h1
    · exact .kTuple h1 h2
  | dict ds =>
    obtain ⟨p, xs, rfl, h1, _⟩ := h.dict
    exact .base (.dK h1)
def isiF (t : Ty) (f : Fn) : Fn := fun env => (f env).bind fun x => some (.bool (isA t x.1), x.2)
theorem se_isi {f : Fn} {c : Str} {pc : Pos} (t : Ty) (hg : Gl X "isinstance") (hm : X.mg "isinstance" = none) (hgc : Gl X c) (hmc : X.mg c = none) (hv : bootBuiltins c = some (.type t.nm)) (he : SE X a0 e f) (hn : c ≠ "__name__" := by decide) (hd : (c == ("__debug__" : Str)) = false := by decide)
    (h1 : starEach [e, .Name c pc] X.env = (false, eval e X.env) :: starEach [.Name c pc] X.env := by rfl) (h2 : starEach [.Name c pc] X.env = (false, eval (.Name c pc) X.env) :: starEach [] X.env := by rfl)
    (hpl : (backTo pos (starEach [.Name c pc] X.env)).any (·.1) = false := by rfl) : SE X a0 (.Call (.Name "isinstance" p) [e, .Name c pc] [] pos) (isiF t f) := by
  refine ⟨PEimp (pe_callB call_isi hg hm (by decide +kernel) (pa_cons he.run (pa_cons (pe_bltn (v := .ty t.nm) hgc hmc hv rfl hn hd) pa_nil h2) h1) (by decide) (by decide) h1 hpl) fun σ H Q ⟨F, env, R, d, env', q, k⟩ => ?_⟩
  obtain ⟨⟨d1, env1⟩, q1, q⟩ := Option.bind_eq_some_iff.mp q
  cases q
  exact ⟨F, env, R, d1, env1, q1, fun v F' H' S R' z => ⟨v, .ty t.nm, .type (tyD d1), .type t.nm, _, rfl, .ty _, Br.ty (.inl z), kit_ty (isA_kit t d1), k _ F' H' S R' (.bl _)⟩⟩

/-! ### methods that change nothing -/
abbrev GM := D → List D → Option D
def rM (K : PySem.W.Frag) (g : GM) : V → List V → Hp → VK → Prop := fun x xs H Q => ∃ F dx ds d, (∀ a : Addr, F a → H a ≠ none) ∧ Br K F H x dx ∧ BrAll K F H xs ds ∧ g dx ds = some d ∧ KP K F H Q d
def rMO (K : PySem.W.Frag) (g : GM) : V → List V → Hp → VK → Prop := fun x xs H Q => ∃ F dx ds d, (∀ a : Addr, F a → H a ≠ none) ∧ Br K F H x dx ∧ BrAll K F H xs ds ∧ g dx ds = some d ∧ KO K F H Q d
theorem MtR.ofO {g : GM} (a : MtR X id (rMO X.K g)) : MtR X id (rM X.K g) := by
  intro pins s σ H x xs v us Q I rx r ⟨F, dx, ds, d, fd, b, z, q, k⟩
  exact a pins s σ H x xs v us Q I rx r ⟨F, dx, ds, d, fd, b, z, q, KP.ko k⟩
def okS : D → Bool
  | .str _ => true
  | _ => false
def okL : D → Bool
  | .list _ => true
  | _ => false
theorem ty_s {K : PySem.W.Frag} {F : Addr → Prop} {H : Hp} {v : V} {d : D} (h : okS d = true) (b : Br K F H v d) : tyV K "str" v H := by
  cases d <;> first | cases h | skip
  rw [b.str]
  rfl
theorem ty_l {K : PySem.W.Frag} {F : Addr → Prop} {H : Hp} {v : V} {d : D} (h : okL d = true) (b : Br K F H v d) : tyV K "list" v H := by
  cases d <;> first | cases h | skip
  obtain ⟨p, xs, rfl, h1, _⟩ := b.list
  exact .inl ⟨rfl, xs, h1.sq⟩
def metF (ok : D → Bool) (g : GM) (f : Fn) (fa : Fa) : Fn := fun env => (f env).bind fun x => if ok x.1 = true then (fa x.2).bind fun y => (g x.1 y.1).map fun d => (d, y.2) else none
theorem metF_inv {ok : D → Bool} {g : GM} {f : Fn} {fa : Fa} {env env' : En} {d : D} (q : metF ok g f fa env = some (d, env')) : ∃ dx env1 ds, f env = some (dx, env1) ∧ ok dx = true ∧ fa env1 = some (ds, env') ∧ g dx ds = some d := by
  obtain ⟨⟨dx, env1⟩, q1, q⟩ := Option.bind_eq_some_iff.mp q
  by_cases h : ok dx = true
  · rw [if_pos h] at q
    obtain ⟨⟨ds, env2⟩, q2, q⟩ := Option.bind_eq_some_iff.mp q
    obtain ⟨d', q3, q⟩ := Option.map_eq_some_iff.mp q
    cases q
    exact ⟨dx, env1, ds, q1, h, q2, q3⟩
  · rw [if_neg h] at q; cases q
variable {o : Expr} {name : Str} {apos cpos : Pos} {fo : Fn} {g : GM} {ok : D → Bool}
theorem se_met (pa : PlainAttrs T) (slot : Slot T name id) (hty : typeOf (.builtin id) = pure (.type "method_descriptor")) (hm : MtR X id (rM X.K g)) (ty : ∀ {F H v d}, ok d = true → Br X.K F H v d → tyV X.K T v H) (ho : SE X a0 o fo) (ha : SA X a0 (e :: es) fa)
    (hbase : attributeBase o name X.env (eval o X.env) = eval o X.env := by rfl)
    (hfew : ((backTo cpos (starEach (e :: es) X.env)).all (fun x => !x.1) && (backToKw cpos (keywordEach [] X.env)).all (fun x => x.1.isSome)
      && decide ((e :: es).length + ([] : List Keyword).length + (if ([] : List Keyword).isEmpty then 0 else 1) < 30)) = true := by rfl)
    (hline : (apos.endLine == cpos.line) = true := by rfl) (hs : starEach (e :: es) X.env = (false, eval e X.env) :: starEach es X.env := by rfl) (hplain : (backTo cpos (starEach es X.env)).any (·.1) = false := by rfl) :
    SE X a0 (.Call (.Attribute o name apos) (e :: es) [] cpos) (metF ok g fo fa) := by
  obtain ⟨ts, _, h2, h3⟩ := ha.ex
  refine ⟨PEimp (pe_bm pa slot hty hm ho.run h2 hbase hfew hline hs hplain) fun σ H Q ⟨F, env, R, d, env', q, k⟩ => ?_⟩
  obtain ⟨dx, env1, ds, q1, q2, q3, q4⟩ := metF_inv q
  refine ⟨F, env, R, dx, env1, q1, fun v F1 H1 S1 R1 z => ⟨ty q2 (.inl z), h3 σ H1 _ ⟨F1, env1, R1, ds, env', q3, fun vs F2 H2 S2 R2 w => ?_⟩⟩⟩
  exact ⟨F2, dx, ds, d, R2.fd, .inl (S2.fz R1 z), w, q4, fun y F' H' G fy => k y F' H' ((S1.trans S2).trans G.stp) (G.rel R2) fy⟩
theorem so_met (pa : PlainAttrs T) (slot : Slot T name id) (hty : typeOf (.builtin id) = pure (.type "method_descriptor")) (hm : MtR X id (rMO X.K g)) (ty : ∀ {F H v d}, ok d = true → Br X.K F H v d → tyV X.K T v H) (ho : SE X a0 o fo) (ha : SA X a0 (e :: es) fa)
    (hbase : attributeBase o name X.env (eval o X.env) = eval o X.env := by rfl)
    (hfew : ((backTo cpos (starEach (e :: es) X.env)).all (fun x => !x.1) && (backToKw cpos (keywordEach [] X.env)).all (fun x => x.1.isSome)
      && decide ((e :: es).length + ([] : List Keyword).length + (if ([] : List Keyword).isEmpty then 0 else 1) < 30)) = true := by rfl)
    (hline : (apos.endLine == cpos.line) = true := by rfl) (hs : starEach (e :: es) X.env = (false, eval e X.env) :: starEach es X.env := by rfl) (hplain : (backTo cpos (starEach es X.env)).any (·.1) = false := by rfl) :
    SO X a0 (.Call (.Attribute o name apos) (e :: es) [] cpos) (metF ok g fo fa) := by
  obtain ⟨ts, _, h2, h3⟩ := ha.ex
  refine ⟨PEimp (pe_bm pa slot hty hm ho.run h2 hbase hfew hline hs hplain) fun σ H Q ⟨F, env, R, d, env', q, k⟩ => ?_⟩
  obtain ⟨dx, env1, ds, q1, q2, q3, q4⟩ := metF_inv q
  refine ⟨F, env, R, dx, env1, q1, fun v F1 H1 S1 R1 z => ⟨ty q2 (.inl z), h3 σ H1 _ ⟨F1, env1, R1, ds, env', q3, fun vs F2 H2 S2 R2 w => ?_⟩⟩⟩
  exact ⟨F2, dx, ds, d, R2.fd, .inl (S2.fz R1 z), w, q4, fun p F' H' G hp nf b => k p F' H' ((S1.trans S2).trans G.stp) (G.rel R2) ((S1.trans S2).new_of hp) nf (fun w' => (R2.owned w').2.2 hp) b⟩
/-! each -/
def txs : List D → Option (List Str)
  | [] => some []
  | .str b :: ds => (txs ds).map (b :: ·)
  | _ => none
theorem txs_vals {K : PySem.W.Frag} {F : Addr → Prop} {H : Hp} : ∀ {ds : List D} {vs : List V} {bs : List Str}, FzAll K F H vs ds → txs ds = some bs → vs = bs.map V.str
  | [], _, _, .nil, e => by cases e; rfl
  | d :: ds, _, bs, .cons h t, e => by
    match d, h, e with
    | .str b, h, e =>
      obtain ⟨bs', e1, e2⟩ := Option.map_eq_some_iff.mp (show (txs ds).map (b :: ·) = some bs from e)
      subst e2
      rw [List.map_cons, ← txs_vals t e1, Br.str (.inl h)]
    | .none, _, e => exact nomatch e
    | .int _, _, e => exact nomatch e
    | .bool _, _, e => exact nomatch e
    | .list _, _, e => exact nomatch e
    | .tuple _, _, e => exact nomatch e
    | .dict _, _, e => exact nomatch e
def seqD : D → Option (List D)
  | .list ds => some ds
  | .tuple ds => some ds
  | _ => none
def joinG : GM
  | .str a, [d] => (seqD d).bind fun ds => (txs ds).bind fun ys => if (ys.map (·.length)).sum + ys.length * a.length ≤ Sz then some (.str (Txt.join a ys)) else none
  | _, _ => none
theorem m_join : MtR X "str.join" (rM X.K joinG) := by
  intro pins s σ H x xs v us Q I rx r ⟨F, dx, ds, d, fd, b, z, q, k⟩
  unfold joinG at q
  split at q
  · rename_i a d1
    obtain ⟨l, q1, q⟩ := Option.bind_eq_some_iff.mp q
    obtain ⟨ys, q2, q⟩ := Option.bind_eq_some_iff.mp q
    split at q
    · rename_i hz
      cases q
      obtain ⟨y, rfl, by_⟩ := one_of z
      have ex := b.str
      subst ex
      unfold seqD at q1
      split at q1
      · cases q1
        obtain ⟨p, ws, rfl, h1, w⟩ := by_.list
        exact mt_join pins s σ H _ _ v us Q I rx r ⟨a, p, ys, rfl, rfl, .inl (by rw [← txs_vals w q2]; exact h1.sq), hz, KP.fz k (.str _)⟩
      · cases q1
        obtain ⟨p, ws, rfl, h1, w⟩ := by_.tup
        exact mt_join pins s σ H _ _ v us Q I rx r ⟨a, p, ys, rfl, rfl, .inr (by rw [← txs_vals w q2]; exact h1), hz, KP.fz k (.str _)⟩
      · cases q1
    · cases q
  · cases q
def sixG : GM
  | .str a, [.str b] => (Builtin.Str.occurrences a b 0 a.length 1).head?.map fun i => .int (i : Nat)
  | _, _ => none
theorem m_six : MtR X "str.index" (rM X.K sixG) := by
  intro pins s σ H x xs v us Q I rx r ⟨F, dx, ds, d, fd, b, z, q, k⟩
  unfold sixG at q
  split at q
  · rename_i a b1
    obtain ⟨i, q1, q⟩ := Option.map_eq_some_iff.mp q
    subst q
    obtain ⟨y, rfl, by_⟩ := one_of z
    have ex := b.str
    have ey := by_.str
    subst ex
    subst ey
    cases e : Builtin.Str.occurrences a b1 0 a.length 1 with
    | nil => rw [e] at q1; cases q1
    | cons i' rest =>
      rw [e] at q1
      cases q1
      exact mt_sindex pins s σ H _ _ v us Q I rx r ⟨a, b1, _, rest, rfl, rfl, e, KP.fz k (.int _)⟩
  · cases q
end
end Ew

/-! EwZip: dict(zip(a, b)) over any two sources. -/
namespace Ew
open PySem L2 PySem.Spec PyProof.Rows

section
variable {prog : Program} {w : World} {A : Around} {E : Value → Shared → Prop} {s : Shared} {z TI TO i1 i2 T : Addr} {fp1 fp2 : List Addr} {n1 n2 i : Nat} {P1 P2 : Nat → Value → Prop} {St1 St2 : Nat → Heap → Prop} {f : Bool} {oT : Obj}
/-- zip's next while the tuple that it gave out is still there -/
theorem zh_item {Q : Value → Shared → Prop} (S : ZipSep2 z TI TO i1 i2 fp1 fp2) (D1 : Draws prog w A i1 fp1 n1 P1 St1) (D2 : Draws prog w A i2 fp2 n2 P2 St2) (hz : IsZipHeld s.heap z TI TO T f) (hT : s.heap.get? T = some oT) (hI : IsTupOf2 s.heap TI (.ref i1) (.ref i2))
    (st1 : St1 i s.heap) (st2 : St2 i s.heap) (l1 : i < n1) (l2 : i < n2)
    (hQ : ∀ x1 x2 h' tk, P1 i x1 → P2 i x2 → IsZipHeld h' z TI TO T true → St1 (i + 1) h' → St2 (i + 1) h' → IsTupOf2 h' s.heap.objs.size x1 x2 → (∀ c o, c ≠ z → c ≠ i1 → c ≠ i2 → s.heap.get? c = some o → h'.get? c = some o) → Q (.ref s.heap.objs.size) { s with heap := h', toks := tk }) :
    wpAny (model prog w) A (Builtin.«zip.__next__» ⟨[.ref z], []⟩) (fun fin s' => ∃ v, fin = .done (.ret v) ∧ Q v s') E s := by
  obtain ⟨hp, g, d, tk0, os⟩ := s
  show wpAny _ _ (field (.ref z) 2 >>= _) _ _ _
  apply wpAny_bind; apply wpAny_field hz rfl (x := .bool false) rfl
  show wpAny _ _ (field (.ref z) 3 >>= _) _ _ _
  apply wpAny_bind; apply wpAny_field hz rfl (x := .ref TI) rfl
  apply wpAny_bind; apply wpAny_seqItems hI rfl
  show wpAny _ _ (Builtin.SmallTypes.ownedTupleIsFree (.ref z) >>= _) _ _ _
  apply wpAny_bind; apply wpAny_tupleHeld_zip hz hT; intro p0 hz0 s0
  simp only [Bool.false_eq_true, if_false]
  replace s0 : Heap.SameBut z hp p0 := s0
  apply wpAny_bind
  rw [← Array.forIn_toList]
  simp only [List.forIn_cons, List.forIn_nil]
  apply wpAny_bind; apply wpAny_bind; apply wpAny_holding
  show wpAny _ _ (Builtin.SmallTypes.nextOf (.ref i1) >>= _) _ _ ⟨p0, g, d, tk0, os⟩
  apply wpAny_bind; apply D1.item i _ _ _ l1 (D1.over st1 s0 S.zf1); intro x1 p1 tk1 hx1 sn1 s1
  apply wpAny_pure; apply wpAny_pure
  replace s1 : Heap.SameBut i1 p0 p1 := s1
  apply wpAny_bind; apply wpAny_bind; apply wpAny_holding
  show wpAny _ _ (Builtin.SmallTypes.nextOf (.ref i2) >>= _) _ _ ⟨p1, g, d, tk1, os⟩
  apply wpAny_bind; apply D2.item i _ _ _ l2 (D2.over (D2.over st2 s0 S.zf2) s1 S.sep1_2); intro x2 p2 tk2 hx2 sn2 s2
  apply wpAny_pure; apply wpAny_pure; apply wpAny_pure
  replace s2 : Heap.SameBut i2 p1 p2 := s2
  show wpAny _ _ (newTuple [x1, x2] >>= _) _ _ ⟨p2, g, d, tk2, os⟩
  apply wpAny_bind; refine wpAny_newTuple ?_
  have sz : p2.objs.size = hp.objs.size := by rw [s2.1, s1.1, s0.1]
  have z2 : IsZipHeld p2 z TI TO T true := s2.extBut _ _ S.zi2 (s1.extBut _ _ S.zi1 hz0)
  have kk : ∀ c o, c ≠ z → c ≠ i1 → c ≠ i2 → hp.get? c = some o → p2.get? c = some o := fun c o a b e q => s2.extBut _ _ e (s1.extBut _ _ b (s0.extBut _ _ a q))
  have t1 : St1 (i + 1) p2 := D1.over sn1 s2 S.sep2_1
  have pu : ∀ c o, p2.get? c = some o → (p2.push { cls := .type "tuple", data := .seq #[x1, x2] }).get? c = some o := fun c o q => Heap.get?_push_of_some _ q
  have tp : IsTupOf2 (p2.push { cls := .type "tuple", data := .seq #[x1, x2] }) p2.objs.size x1 x2 := Heap.get?_push_size _ rfl
  apply wpAny_pure
  refine ⟨_, rfl, ?_⟩
  show Q (.ref p2.objs.size) _
  rw [sz] at tp ⊢
  exact hQ x1 x2 _ tk2 hx1 hx2 (pu _ _ z2) (D1.frame _ _ _ t1 fun b _ o q => pu b o q) (D2.frame _ _ _ sn2 fun b _ o q => pu b o q) tp fun c o a b e q => pu _ _ (kk c o a b e q)
theorem zh_end {Q : Fin → Shared → Prop} (S : ZipSep2 z TI TO i1 i2 fp1 fp2) (D1 : Draws prog w A i1 fp1 n1 P1 St1) (D2 : Draws prog w A i2 fp2 n2 P2 St2) (hz : IsZipHeld s.heap z TI TO T f) (hT : s.heap.get? T = some oT) (hI : IsTupOf2 s.heap TI (.ref i1) (.ref i2))
    (st1 : St1 i s.heap) (st2 : St2 i s.heap) (l1 : i ≤ n1) (l2 : i ≤ n2) (hend : i = n1 ∨ i = n2)
    (hE : ∀ h' tk e, (∀ c o, c ≠ z → c ≠ i1 → c ≠ i2 → s.heap.get? c = some o → h'.get? c = some o) → (∃ o, h'.get? e = some o ∧ o.cls = .type "StopIteration") → E (.ref e) { s with heap := h', toks := tk }) :
    wpAny (model prog w) A (Builtin.«zip.__next__» ⟨[.ref z], []⟩) Q E s := by
  obtain ⟨hp, g, d, tk0, os⟩ := s
  show wpAny _ _ (field (.ref z) 2 >>= _) _ _ _
  apply wpAny_bind; apply wpAny_field hz rfl (x := .bool false) rfl
  show wpAny _ _ (field (.ref z) 3 >>= _) _ _ _
  apply wpAny_bind; apply wpAny_field hz rfl (x := .ref TI) rfl
  apply wpAny_bind; apply wpAny_seqItems hI rfl
  show wpAny _ _ (Builtin.SmallTypes.ownedTupleIsFree (.ref z) >>= _) _ _ _
  apply wpAny_bind; apply wpAny_tupleHeld_zip hz hT; intro p0 hz0 s0
  simp only [Bool.false_eq_true, if_false]
  replace s0 : Heap.SameBut z hp p0 := s0
  apply wpAny_bind
  rw [← Array.forIn_toList]
  simp only [List.forIn_cons, List.forIn_nil]
  apply wpAny_bind; apply wpAny_bind; apply wpAny_holding
  show wpAny _ _ (Builtin.SmallTypes.nextOf (.ref i1) >>= _) _ _ ⟨p0, g, d, tk0, os⟩
  by_cases lt : i < n1
  · apply wpAny_bind; apply D1.item i _ _ _ lt (D1.over st1 s0 S.zf1); intro x1 p1 tk1 hx1 sn1 s1
    apply wpAny_pure; apply wpAny_pure
    replace s1 : Heap.SameBut i1 p0 p1 := s1
    apply wpAny_bind; apply wpAny_bind; apply wpAny_holding
    show wpAny _ _ (Builtin.SmallTypes.nextOf (.ref i2) >>= _) _ _ ⟨p1, g, d, tk1, os⟩
    have e2 : i = n2 := by omega
    have st : St2 n2 p1 := by rw [← e2]; exact D2.over (D2.over st2 s0 S.zf2) s1 S.sep1_2
    apply wpAny_bind; apply D2.done ⟨p1, g, d, tk1, os⟩ _ _ st; intro q e hq he
    exact hE q tk1 e (fun c o a b r x => hq _ _ r (s1.extBut _ _ b (s0.extBut _ _ a x))) he
  · have e1 : i = n1 := by omega
    have st : St1 n1 p0 := by rw [← e1]; exact D1.over st1 s0 S.zf1
    apply wpAny_bind; apply D1.done ⟨p0, g, d, tk0, os⟩ _ _ st; intro q e hq he
    exact hE q tk0 e (fun c o a b r x => hq _ _ b (s0.extBut _ _ a x)) he
theorem zh_next {Q : Option Value → Shared → Prop} (S : ZipSep2 z TI TO i1 i2 fp1 fp2) (D1 : Draws prog w A.in1 i1 fp1 n1 P1 St1) (D2 : Draws prog w A.in1 i2 fp2 n2 P2 St2) (hz : IsZipHeld s.heap z TI TO T f) (hT : s.heap.get? T = some oT) (hI : IsTupOf2 s.heap TI (.ref i1) (.ref i2))
    (st1 : St1 i s.heap) (st2 : St2 i s.heap) (l1 : i < n1) (l2 : i < n2)
    (hQ : ∀ x1 x2 h' tk, P1 i x1 → P2 i x2 → IsZipHeld h' z TI TO T true → St1 (i + 1) h' → St2 (i + 1) h' → IsTupOf2 h' s.heap.objs.size x1 x2 → (∀ c o, c ≠ z → c ≠ i1 → c ≠ i2 → s.heap.get? c = some o → h'.get? c = some o) → Q (some (.ref s.heap.objs.size)) { s with heap := h', toks := tk }) :
    wpAny (model prog w) A (pyNext (.ref z)) Q E s := by
  have ty : s.TypeIs (.ref z) "zip" := ⟨_, hz, rfl⟩
  unfold pyNext
  apply wpAny_bind; apply wpAny_attempt; apply wpAny_callSpecial?_slot (name := Str.ofString "__next__") ty F.slot_zip_next
  refine wpAny_call_entry F.slot_zip_next ty F.entry_zip_next ?_ (F.args_zip_next_1 _)
  exact zh_item S D1 D2 hz hT hI st1 st2 l1 l2 fun x1 x2 h' tk a b c e r t k => wpAny_pure (hQ x1 x2 h' tk a b c e r t k)
theorem zh_stop {Q : Option Value → Shared → Prop} (S : ZipSep2 z TI TO i1 i2 fp1 fp2) (D1 : Draws prog w A.in1 i1 fp1 n1 P1 St1) (D2 : Draws prog w A.in1 i2 fp2 n2 P2 St2) (hz : IsZipHeld s.heap z TI TO T f) (hT : s.heap.get? T = some oT) (hI : IsTupOf2 s.heap TI (.ref i1) (.ref i2))
    (st1 : St1 i s.heap) (st2 : St2 i s.heap) (l1 : i ≤ n1) (l2 : i ≤ n2) (hend : i = n1 ∨ i = n2)
    (hQ : ∀ h' tk, (∀ c o, c ≠ z → c ≠ i1 → c ≠ i2 → s.heap.get? c = some o → h'.get? c = some o) → Q none { s with heap := h', toks := tk }) : wpAny (model prog w) A (pyNext (.ref z)) Q E s := by
  have ty : s.TypeIs (.ref z) "zip" := ⟨_, hz, rfl⟩
  unfold pyNext
  apply wpAny_bind; apply wpAny_attempt; apply wpAny_callSpecial?_slot (name := Str.ofString "__next__") ty F.slot_zip_next
  refine wpAny_call_entry F.slot_zip_next ty F.entry_zip_next (zh_end S D1 D2 hz hT hI st1 st2 l1 l2 hend fun h' tk e k he => ?_) (F.args_zip_next_1 _)
  obtain ⟨o, ho, hc⟩ := he
  have ti : ({ s with heap := h', toks := tk } : Shared).TypeIs (.ref e) "StopIteration" := ⟨o, ho, hc⟩
  apply wpAny_bind; apply wpAny_isInstance (T := "StopIteration") (b := true) ti isSubtype_stop
  exact wpAny_pure (hQ _ _ k)
end
/-- zip(a, b) as the argument of dict -/
theorem arg_zip {prog : Program} {w : World} {z TI TO i1 i2 : Addr} {fp1 fp2 : List Addr} {n1 n2 : Nat} {P1 P2 : Nat → Value → Prop} {St1 St2 : Nat → Heap → Prop} (S : ZipSep2 z TI TO i1 i2 fp1 fp2)
    (D1 : ∀ A : Around, A.handled = none → Draws prog w A i1 fp1 n1 P1 St1) (D2 : ∀ A : Around, A.handled = none → Draws prog w A i2 fp2 n2 P2 St2) (h1 : ∀ i h, St1 i h → ∀ b ∈ fp1, ∃ o, h.get? b = some o) (h2 : ∀ i h, St2 i h → ∀ b ∈ fp2, ∃ o, h.get? b = some o) :
    PairArg prog w "zip" z (z :: TI :: TO :: (fp1 ++ fp2)) [z, TO, i1, i2] (min n1 n2) (fun i k v => P1 i k ∧ P2 i v)
      (fun h => IsZip h z TI TO .none ∧ IsTupOf2 h TI (.ref i1) (.ref i2) ∧ (∃ a b, IsTupOf2 h TO a b) ∧ St1 0 h ∧ St2 0 h) where
  type := fun s ok => ⟨_, ok.1, rfl⟩
  notDict := by decide
  keep := fun h h' ok hk => by
    obtain ⟨a, b, ⟨c, d, e⟩, s1, s2⟩ := ok
    exact ⟨hk _ _ a, hk _ _ b, ⟨c, d, hk _ _ e⟩, (D1 {} rfl).frame _ _ _ s1 fun b _ o q => hk b o q, (D2 {} rfl).frame _ _ _ s2 fun b _ o q => hk b o q⟩
  there := fun h ok b hb => by
    obtain ⟨q1, q2, ⟨c, d, q3⟩, s1, s2⟩ := ok
    simp only [List.mem_cons, List.mem_append] at hb
    rcases hb with rfl | rfl | rfl | hb | hb
    · exact ⟨_, q1⟩
    · exact ⟨_, q2⟩
    · exact ⟨_, q3⟩
    · exact h1 _ _ s1 _ hb
    · exact h2 _ _ s2 _ hb
  sub := fun b hb => by
    have e : b = z ∨ b = TO ∨ b = i1 ∨ b = i2 := by simpa using hb
    simp only [List.mem_cons, List.mem_append]
    rcases e with e | e | e | e
    · exact .inl e
    · exact .inr (.inr (.inl e))
    · exact .inr (.inr (.inr (.inl (e ▸ S.mem1))))
    · exact .inr (.inr (.inr (.inr (e ▸ S.mem2))))
  noKeys := fun A s Q E hA ok h => getAttrOr_miss_zip ok.1 rfl rfl rfl zip_no_keys (by decide +kernel) hA h
  iter := fun A s d Q E hA ok hd hdf h => by
    obtain ⟨hz, hTI, ⟨a, b, hTO⟩, s1, s2⟩ := ok
    simp only [List.mem_cons, List.mem_append, not_or] at hdf
    obtain ⟨dz, dTI, dTO, d1, d2⟩ := hdf
    have di1 : d ≠ i1 := fun q => d1 (q ▸ S.mem1)
    have di2 : d ≠ i2 := fun q => d2 (q ▸ S.mem2)
    have E1 := D1 A.in1 hA
    have E2 := D2 A.in1 hA
    refine wpAny_pyIter_zip hz (h z [z, TO, i1, i2] (fun i h => IsTupOf2 h TI (.ref i1) (.ref i2) ∧ St1 i h ∧ St2 i h ∧
      ((IsZip h z TI TO .none ∧ ∃ a b, IsTupOf2 h TO a b) ∨ ∃ T f oT, IsZipHeld h z TI TO T f ∧ h.get? T = some oT ∧ T ≠ z ∧ T ≠ i1 ∧ T ≠ i2 ∧ T ≠ d)) s.heap s.toks ?_ ⟨hTI, s1, s2, .inl ⟨hz, a, b, hTO⟩⟩ (fun _ _ e => e) fun b hb => .inl hb)
    constructor
    · intro hm
      have e : d = z ∨ d = TO ∨ d = i1 ∨ d = i2 := by simpa using hm
      rcases e with e | e | e | e
      · exact dz e
      · exact dTO e
      · exact di1 e
      · exact di2 e
    · rintro i g1 g2 ⟨r1, r2, r3, r4⟩ hk
      refine ⟨hk _ _ (Ne.symm dTI) r1, E1.frame _ _ _ r2 fun b hb o e => hk b o (fun q => d1 (q ▸ hb)) e, E2.frame _ _ _ r3 fun b hb o e => hk b o (fun q => d2 (q ▸ hb)) e, ?_⟩
      rcases r4 with ⟨q1, a, b, q2⟩ | ⟨T, f, oT, q1, q2, n1, n2, n3, n4⟩
      · exact .inl ⟨hk _ _ (Ne.symm dz) q1, a, b, hk _ _ (Ne.symm dTO) q2⟩
      · exact .inr ⟨T, f, oT, hk _ _ (Ne.symm dz) q1, hk _ _ n4 q2, n1, n2, n3, n4⟩
    · rintro i t Q1 E' hi ⟨r1, r2, r3, r4⟩ hds hQ
      have lt : ∀ {c o}, t.heap.get? c = some o → t.heap.objs.size ≠ c := fun e => Nat.ne_of_gt (Heap.lt_size e)
      have m1 : t.heap.objs.size ≠ i1 := let ⟨_, e⟩ := E1.live _ _ r2; lt e
      have m2 : t.heap.objs.size ≠ i2 := let ⟨_, e⟩ := E2.live _ _ r3; lt e
      have hi1 : i < n1 := by omega
      have hi2 : i < n2 := by omega
      rcases r4 with ⟨q1, a, b, q2⟩ | ⟨T, f, oT, q1, q2, k1, k2, k3, k4⟩
      · refine wpAny_pyNext_zipD2_item S E1 E2 q1 r1 q2 r2 r3 hi1 hi2 fun x1 x2 h' tk y1 y2 a1 a2 b1 b2 a5 a6 hk => ?_
        exact hQ t.heap.objs.size x1 x2 h' tk ⟨y1, y2⟩ (.inl ⟨_, a5, rfl, _, rfl⟩) ⟨hk _ _ S.TIz S.TITO S.TIi1 S.TIi2 r1, b1, b2, .inr ⟨t.heap.objs.size, false, _, a1, a5, lt q1, m1, m2, Nat.ne_of_gt hds⟩⟩
          fun c o hc e => hk c o (fun x => hc (by simp [x])) (fun x => hc (by simp [x])) (fun x => hc (by simp [x])) (fun x => hc (by simp [x])) e
      · refine zh_next S E1 E2 q1 q2 r1 r2 r3 hi1 hi2 fun x1 x2 h' tk y1 y2 a1 b1 b2 a5 hk => ?_
        exact hQ t.heap.objs.size x1 x2 h' tk ⟨y1, y2⟩ (.inl ⟨_, a5, rfl, _, rfl⟩) ⟨hk _ _ S.TIz S.TIi1 S.TIi2 r1, b1, b2, .inr ⟨T, true, oT, a1, hk _ _ k1 k2 k3 q2, k1, k2, k3, k4⟩⟩
          fun c o hc e => hk c o (fun x => hc (by simp [x])) (fun x => hc (by simp [x])) (fun x => hc (by simp [x])) e
    · rintro t Q1 E' ⟨r1, r2, r3, r4⟩ hQ
      have en : min n1 n2 = n1 ∨ min n1 n2 = n2 := by omega
      rcases r4 with ⟨q1, a, b, q2⟩ | ⟨T, f, oT, q1, q2, k1, k2, k3, k4⟩
      · exact wpAny_pyNext_zipD2_end S E1 E2 q1 r1 q2 r2 r3 (by omega) (by omega) en fun h' tk hk => hQ h' tk fun c o hc e => hk c o (fun x => hc (by simp [x])) (fun x => hc (by simp [x])) (fun x => hc (by simp [x])) (fun x => hc (by simp [x])) e
      · exact zh_stop S E1 E2 q1 q2 r1 r2 r3 (by omega) (by omega) en fun h' tk hk => hQ h' tk fun c o hc e => hk c o (fun x => hc (by simp [x])) (fun x => hc (by simp [x])) (fun x => hc (by simp [x])) e
end Ew

/-! EwDict: dict(zip(a, b)). -/
namespace Ew
open PySem L2 PySem.Spec PyProof.Rows

/-- a source, at whatever call -/
theorem Kv.drawA {X : Cx} {pins : List (Addr × Obj)} {σ : St} {H : Hp} {s : Shared} {κ : Kv} {vs : List V} {it : Addr} {u : Value} (I : Inv X pins σ H s) (h : κ.src X.K H vs) (r : RelV κ.v u) (hn : s.heap.objs.size ≤ it) :
    ∃ (t : Tok) (o : Obj) (G : Heap → Prop) (fp : List Addr) (n : Nat) (P : Nat → Value → Prop) (S : Nat → Heap → Prop), Begins u o G ∧ G s.heap ∧ (∀ A : Around, A.handled = none → Draws X.prog X.w A it (it :: fp) n P S) ∧ n = vs.length ∧
      (∀ h', h'.get? it = some o → (∀ b o, s.heap.get? b = some o → h'.get? b = some o) → S 0 h') ∧ (∀ i h', S i h' → ∀ b ∈ it :: fp, ∃ o, h'.get? b = some o) ∧ (∀ b ∈ fp, b < s.heap.objs.size) ∧
      (∃ us, Vals vs us ∧ ((∀ x, κ ≠ .tx x) → ∀ j u, P j u → us[j]? = some u)) ∧ ∀ j u, P j u → ∃ x, vs[j]? = some x ∧ RelV x u := by
  cases κ with
  | ls a =>
    cases r
    obtain ⟨its, rv, p, _⟩ := I.list h
    have lt : a < s.heap.objs.size := p.lt
    have hne : a ≠ it := fun z => absurd lt (Nat.not_lt.mpr (z ▸ hn))
    refine ⟨0, _, _, [a], _, _, _, begins_list a its.toArray, p.isList, fun A hA => Draws.list hA it a hne its.toArray, by rw [rv.length, List.size_toArray], fun h' e k => ⟨⟨_, e, rfl, rfl⟩, p.isList.at fun o q => k _ o q⟩, fun i h' ⟨⟨o1, e1, _⟩, ⟨o2, e2, _⟩⟩ b hb => ?_, fun b hb => ?_, ⟨its, rv, fun _ j u e => by simpa using e⟩, fun j u e => vals_at rv (by simpa using e)⟩
    · have : b = it ∨ b = a := by simpa using hb
      rcases this with z | z <;> rw [z]
      · exact ⟨o1, e1⟩
      · exact ⟨o2, e2⟩
    · have : b = a := by simpa using hb
      rw [this]; exact lt
  | tp a =>
    cases r
    obtain ⟨its, rv, p, _⟩ := I.tuple h
    have lt : a < s.heap.objs.size := p.lt
    have hne : a ≠ it := fun z => absurd lt (Nat.not_lt.mpr (z ▸ hn))
    refine ⟨0, _, _, [a], _, _, _, begins_tuple a its.toArray, p, fun A hA => Draws.tuple hA it a hne its.toArray, by rw [rv.length, List.size_toArray], fun h' e k => ⟨⟨_, e, rfl, rfl⟩, Heap.IsTuple.at (show s.heap.IsTuple a its.toArray from p) fun o q => k _ o q⟩, fun i h' ⟨⟨o1, e1, _⟩, ⟨o2, e2, _⟩⟩ b hb => ?_, fun b hb => ?_, ⟨its, rv, fun _ j u e => by simpa using e⟩, fun j u e => vals_at rv (by simpa using e)⟩
    · have : b = it ∨ b = a := by simpa using hb
      rcases this with z | z <;> rw [z]
      · exact ⟨o1, e1⟩
      · exact ⟨o2, e2⟩
    · have : b = a := by simpa using hb
      rw [this]; exact lt
  | tx x =>
    obtain ⟨t, rfl⟩ := r
    have e : vs = chs x := h
    subst e
    refine ⟨t, _, _, [], _, _, _, begins_text x t, trivial, fun A hA => Draws.text hA it x t, by simp [chs], fun h' e k => ⟨_, e, rfl, rfl⟩, fun i h' z b hb => ?_, fun b hb => absurd hb List.not_mem_nil, ?_, fun j u z => ?_⟩
    · have : b = it := by simpa using hb
      obtain ⟨o1, e1, _⟩ := z
      rw [this]; exact ⟨o1, e1⟩
    · refine ⟨(chs x).map fun v => match v with | .str c => Value.str c 0 | _ => Value.none, ?_, fun z => absurd rfl (z x)⟩
      unfold chs
      induction x.cps.toList with
      | nil => exact .nil
      | cons c l ih => exact .cons ⟨0, rfl⟩ ih
    · obtain ⟨k, w, e1, e2⟩ := z
      refine ⟨.str ⟨#[k]⟩, ?_, w, e2⟩
      have e1' : x.cps.toList[j]? = some k := by simpa using e1
      simp [chs, e1']
def tDz (K : PySem.W.Frag) (ta : TA) : TE := fun σ H Q => ta σ H fun vs H1 => ∃ (κ κ' : Kv) (ks : List Key) (ys : List V), vs = [κ.v, κ'.v] ∧ κ.src K H1 (ks.map kV) ∧ κ'.src K H1 ys ∧ (∀ x, κ' ≠ .tx x) ∧ ks.length ≤ sizeLine ∧
  ∀ p, H1 p = none → Q (.ref p) (upd H1 p (.dK (mergeK [] (ks.zip ys))))
theorem kv_zip : ∀ (ks : List Key) {ys : List V} {us : List Value}, Vals ys us → KV (ks.zip ys) (ks.zip us)
  | [], _, _, _ => by simp; exact .nil
  | k :: ks, _, _, .nil => by simp; exact .nil
  | k :: ks, _, _, .cons r t => .cons ⟨rfl, r⟩ (kv_zip ks t)
theorem putK_le {κ : Type} [DecidableEq κ] (l : List (κ × V)) (k : κ) (v : V) : (putK l k v).length ≤ l.length + 1 := by
  unfold putK
  split <;> simp
theorem mergeK_le : ∀ (more kvs : List (Key × V)), (mergeK kvs more).length ≤ kvs.length + more.length
  | [], kvs => by simp [mergeK]
  | p :: more, kvs => by
    have h := mergeK_le more (putK kvs p.1 p.2)
    have h2 := putK_le kvs p.1 p.2
    have e : mergeK kvs (p :: more) = mergeK (putK kvs p.1 p.2) more := rfl
    rw [e, List.length_cons]
    omega
theorem boot_dictT : bootBuiltins "dict" = some (.type "dict") := by decide +kernel
theorem boot_zipT : bootBuiltins "zip" = some (.type "zip") := by decide +kernel
theorem pe_dz {X : Cx} (hc : X.calm = true) {e e2 : Expr} {ta : TA} {p p' pos pos' : Pos} (hg : Gl X "dict") (hm : X.mg "dict" = none) (hg' : Gl X "zip") (hm' : X.mg "zip" = none) (ha : PA X [e, e2] ta)
    (hs : starEach [e, e2] X.env = (false, eval e X.env) :: starEach [e2] X.env := by rfl) (hpl : (backTo pos' (starEach [e2] X.env)).any (·.1) = false := by rfl)
    (hs2 : starEach [.Call (.Name "zip" p') [e, e2] [] pos'] X.env = [(false, eval (.Call (.Name "zip" p') [e, e2] [] pos') X.env)] := by rfl) :
    PE X (.Call (.Name "dict" p) [.Call (.Name "zip" p') [e, e2] [] pos'] [] pos) (tDz X.K ta) := by
  refine ⟨fun pins s σ H Q I h => ?_⟩
  refine Call_ (ld_blt I hg hm boot_dictT (PyProof.Rows.callWith_type1 ?_ hs2 rfl))
  rw [hs2]
  refine Calls.spliced_cons ?_
  refine Call_ (ld_blt I hg' hm' boot_zipT (PyProof.Rows.callWith_type1 (thn (ha.run pos' pins s σ H _ I h) ?_) hs hpl))
  rintro us s1 ⟨vs, H1, I1, r1, κ, κ', ks, ys, rfl, h1, h2, ntx, hz, q⟩
  obtain ⟨u1, u2, rfl, ru1, ru2⟩ := vals2 r1
  obtain ⟨t1, o1, G1, fp1, n1, P1, S1, B1, g1, D1, hn1, st1, th1, lt1, _, hP1⟩ := Kv.drawA (it := s1.heap.objs.size) I1 h1 ru1 (Nat.le_refl _)
  obtain ⟨t2, o2, G2, fp2, n2, P2, S2, B2, g2, D2, hn2, st2, th2, lt2, ⟨us, rv, hP2⟩, _⟩ := Kv.drawA (it := s1.heap.objs.size + 1) I1 h2 ru2 (Nat.le_succ _)
  refine zip_begins2 B1 B2 g1 g2 fun h' hz' hTI hTO e1 e2 hsz hk => ?_
  have I2 : Inv X pins σ H1 { s1 with heap := h' } := I1.kept (t' := s1.toks) hk
  refine Calls.spliced_nil ?_
  have S := zip_sep2 (N := s1.heap.objs.size) lt1 lt2
  have ok : IsZip h' (s1.heap.objs.size + 4) (s1.heap.objs.size + 2) (s1.heap.objs.size + 3) .none ∧ IsTupOf2 h' (s1.heap.objs.size + 2) (.ref s1.heap.objs.size) (.ref (s1.heap.objs.size + 1)) ∧ (∃ a b, IsTupOf2 h' (s1.heap.objs.size + 3) a b) ∧ S1 0 h' ∧ S2 0 h' :=
    ⟨hz', hTI, ⟨_, _, hTO⟩, st1 h' e1 hk, st2 h' e2 hk⟩
  have hlen : (ks.map kV).length = ks.length := List.length_map _
  have ly := rv.length
  refine call_dict_pairs (s := { s1 with heap := h' }) (knd := mixKind X.prog X.w) (kvs := ks.zip us) (arg_zip S D1 D2 th1 th2) (I.ok.hd hc) ok ⟨?_, fun i key v hr => ?_⟩ ?_ fun h'' tk hd hk2 => ?_
  · rw [List.length_zip, hn1, hn2, hlen, ly]
  · obtain ⟨x, ex, rx⟩ := hP1 i key hr.1
    have ev := hP2 ntx i v hr.2
    rw [List.getElem?_map] at ex
    obtain ⟨k, ek, hkx⟩ := Option.map_eq_some_iff.mp ex
    subst hkx
    refine ⟨k, ?_, kV_is rx⟩
    rw [List.getElem?_zip_eq_some]
    exact ⟨ek, ev⟩
  · rw [hn1, hlen]
    exact Nat.le_trans (Nat.min_le_left _ _) hz
  · have lh : s1.heap.objs.size ≤ h'.objs.size := by rw [hsz]; exact Nat.le_add_right _ _
    have fr : H1 h'.objs.size = none := I1.hok.fresh lh
    refine ⟨.ref h'.objs.size, _, I2.turnedNew (t' := tk) (ch := [s1.heap.objs.size + 4, s1.heap.objs.size + 3, s1.heap.objs.size, s1.heap.objs.size + 1]) (T := h'.objs.size) (ob := .dK (mergeK [] (ks.zip ys))) (fun b o hb e => hk2 b o hb e) (fun b hb => ?_) (Nat.le_refl _) ?_, rfl, q _ fr⟩
    · have e' : b = s1.heap.objs.size + 4 ∨ b = s1.heap.objs.size + 3 ∨ b = s1.heap.objs.size ∨ b = s1.heap.objs.size + 1 := by simpa using hb
      have hle : s1.heap.objs.size ≤ b := by
        rcases e' with z | z | z | z <;> rw [z]
        · exact Nat.le_add_right _ _
        · exact Nat.le_add_right _ _
        · exact Nat.le_refl _
        · exact Nat.le_add_right _ _
      exact I1.fpOk hle (I1.hok.fresh hle)
    · have kv : KV (mergeK [] (ks.zip ys)) (merged [] (ks.zip us)) := KV.merge (kv_zip ks rv) .nil
      refine ⟨?_, ?_, _, kv, hd⟩
      · have := mergeK_le (ks.zip ys) []
        rw [List.length_zip] at this
        have m : min ks.length ys.length ≤ ks.length := Nat.min_le_left _ _
        simp only [List.length_nil, Nat.zero_add] at this
        exact Nat.le_trans (Nat.le_trans this m) hz
      · exact beq_eq_false_iff_ne.mpr fun z => absurd I2.big (by rw [← z]; exact Nat.lt_irrefl _)

/-! ### as data -/
def putD (ds : List (D × D)) (k : Key) (d : D) : List (D × D) := if (ds.any fun p => decide (dK p.1 = some k)) = true then ds.map fun p => if dK p.1 = some k then (p.1, d) else p else ds ++ [(kD k, d)]
def mgD : List (D × D) → List (Key × D) → List (D × D)
  | ds, [] => ds
  | ds, p :: more => mgD (putD ds p.1 p.2) more
def keysD : List D → Option (List Key)
  | [] => some []
  | d :: ds => (dK d).bind fun k => (keysD ds).map (k :: ·)
section
variable {K : PySem.W.Frag} {F : Addr → Prop} {H : Hp}
theorem FzKv.any {kvs : List (Key × V)} {ds : List (D × D)} (z : FzKv K F H kvs ds) (k : Key) : (kvs.any fun kv => decide (kv.1 = k)) = ds.any fun p => decide (dK p.1 = some k) := by
  induction kvs generalizing ds with
  | nil => cases z; rfl
  | cons p kvs ih =>
    cases z with
    | cons h t =>
      rw [List.any_cons, List.any_cons, ih t, dK_kD]
      congr 1
      rw [Bool.eq_iff_iff]
      simp
theorem FzKv.snoc {k : Key} {v : V} {d : D} (h : Fz K F H v d) : ∀ {kvs : List (Key × V)} {ds : List (D × D)}, FzKv K F H kvs ds → FzKv K F H (kvs ++ [(k, v)]) (ds ++ [(kD k, d)])
  | _, _, .nil => .cons h .nil
  | _, _, .cons h' t => .cons h' (FzKv.snoc h t)
theorem FzKv.repl {k : Key} {v : V} {d : D} (h : Fz K F H v d) : ∀ {kvs : List (Key × V)} {ds : List (D × D)}, FzKv K F H kvs ds → FzKv K F H (kvs.map fun kv => if kv.1 = k then (kv.1, v) else kv) (ds.map fun p => if dK p.1 = some k then (p.1, d) else p)
  | _, _, .nil => .nil
  | _, _, .cons (k := a) (v := w) (vs := vs) (d := e) (ds := ds) h' t => by
    rw [List.map_cons, List.map_cons, dK_kD]
    by_cases ea : a = k
    · subst ea
      rw [if_pos rfl, if_pos rfl]
      exact .cons h (FzKv.repl h t)
    · rw [if_neg ea, if_neg (fun z => ea (Option.some.inj z))]
      exact .cons h' (FzKv.repl h t)
theorem FzKv.put {k : Key} {v : V} {d : D} (h : Fz K F H v d) {kvs : List (Key × V)} {ds : List (D × D)} (z : FzKv K F H kvs ds) : FzKv K F H (putK kvs k v) (putD ds k d) := by
  unfold putK putD
  rw [z.any k]
  by_cases e : (ds.any fun p => decide (dK p.1 = some k)) = true
  · rw [if_pos e, if_pos e]; exact z.repl h
  · rw [if_neg e, if_neg e]; exact z.snoc h
theorem FzKv.merge : ∀ {ks : List Key} {ys : List V} {es : List D} {kvs : List (Key × V)} {ds : List (D × D)}, FzAll K F H ys es → FzKv K F H kvs ds → FzKv K F H (mergeK kvs (ks.zip ys)) (mgD ds (ks.zip es))
  | [], _, _, _, _, _, z => by simpa [mergeK, mgD] using z
  | k :: ks, _, _, _, _, .nil, z => by simpa [mergeK, mgD] using z
  | k :: ks, _, _, _, _, .cons h t, z => FzKv.merge (ks := ks) t (z.put h)
theorem keysD_vals : ∀ {ds : List D} {vs : List V} {ks : List Key}, FzAll K F H vs ds → keysD ds = some ks → vs = ks.map kV
  | [], _, _, .nil, e => by cases e; rfl
  | d :: ds, _, ks, .cons h t, e => by
    obtain ⟨k, e1, e⟩ := Option.bind_eq_some_iff.mp e
    obtain ⟨ks', e2, e⟩ := Option.map_eq_some_iff.mp e
    subst e
    rw [List.map_cons, ← keysD_vals t e2, Br.key (.inl h) e1]
end
def dzF (f : Fa) : Fn := fun env => (f env).bind fun x => match x.1 with
  | [a, b] => (itemsD a).bind fun as => (keysD as).bind fun ks => (seqD b).bind fun bs => if ks.length ≤ Sz then some (.dict (mgD [] (ks.zip bs)), x.2) else none
  | _ => none
theorem dzF_inv {f : Fa} {env env' : En} {d : D} (q : dzF f env = some (d, env')) : ∃ a b as ks bs, f env = some ([a, b], env') ∧ itemsD a = some as ∧ keysD as = some ks ∧ seqD b = some bs ∧ ks.length ≤ Sz ∧ d = .dict (mgD [] (ks.zip bs)) := by
  obtain ⟨⟨l, env1⟩, q1, q⟩ := Option.bind_eq_some_iff.mp q
  dsimp only at q
  split at q
  · obtain ⟨as, q2, q⟩ := Option.bind_eq_some_iff.mp q
    obtain ⟨ks, q3, q⟩ := Option.bind_eq_some_iff.mp q
    obtain ⟨bs, q4, q⟩ := Option.bind_eq_some_iff.mp q
    split at q
    · rename_i hz
      cases q
      exact ⟨_, _, as, ks, bs, q1, q2, q3, q4, hz, rfl⟩
    · cases q
  · cases q
section
variable {X : Cx} {a0 : Addr} {e e2 : Expr} {fa : Fa} {p p' pos pos' : Pos}
theorem so_dz (hc : X.calm = true) (hg : Gl X "dict") (hm : X.mg "dict" = none) (hg' : Gl X "zip") (hm' : X.mg "zip" = none) (ha : SF X a0 [e, e2] fa)
    (hs : starEach [e, e2] X.env = (false, eval e X.env) :: starEach [e2] X.env := by rfl) (hpl : (backTo pos' (starEach [e2] X.env)).any (·.1) = false := by rfl)
    (hs2 : starEach [.Call (.Name "zip" p') [e, e2] [] pos'] X.env = [(false, eval (.Call (.Name "zip" p') [e, e2] [] pos') X.env)] := by rfl) : SO X a0 (.Call (.Name "dict" p) [.Call (.Name "zip" p') [e, e2] [] pos'] [] pos) (dzF fa) := by
  obtain ⟨ts, _, h2, h3⟩ := ha.ex
  refine ⟨PEimp (pe_dz hc hg hm hg' hm' h2 hs hpl hs2) fun σ H Q ⟨F, env, R, d, env', q, k⟩ => h3 σ H _ ?_⟩
  obtain ⟨a, b, as, ks, bs, q1, q2, q3, q4, hz, rfl⟩ := dzF_inv q
  refine ⟨F, env, R, _, _, q1, fun vs F1 H1 S1 R1 z => ?_⟩
  cases z with
  | cons z z' =>
    cases z' with
    | cons y z' =>
      cases z'
      obtain ⟨κ, rfl, st⟩ := z.kv q2
      obtain ⟨ws, s, w⟩ := st.now
      have ek := keysD_vals w q3
      subst ek
      rename_i v2
      have yv : ∃ (κ' : Kv) (ys : List V), v2 = κ'.v ∧ κ'.src X.K H1 ys ∧ (∀ x, κ' ≠ .tx x) ∧ FzAll X.K F1 H1 ys bs := by
        unfold seqD at q4
        split at q4
        · cases q4
          obtain ⟨pp, xs, rfl, h1, w⟩ := Br.list (.inl y)
          exact ⟨.ls pp, xs, rfl, h1.sq, (by intro x z; cases z), w⟩
        · cases q4
          obtain ⟨pp, xs, rfl, h1, w⟩ := Br.tup (.inl y)
          exact ⟨.tp pp, xs, rfl, h1, (by intro x z; cases z), w⟩
        · cases q4
      obtain ⟨κ', ys, rfl, hsrc, ntx, w'⟩ := yv
      refine ⟨κ, κ', ks, ys, rfl, s, hsrc, ntx, sz_le hz, fun pp hp => ?_⟩
      have G : Grow F1 H1 F1 (upd H1 pp (.dK (mergeK [] (ks.zip ys)))) := Grow.new1 hp
      exact k pp F1 _ (S1.trans G.stp) (G.rel R1) (S1.new_of hp) (fun f => R1.fd pp f hp) (fun w => (R1.owned w).2.2 hp) (.dic upd_same (FzKv.merge (G.fzAll w') .nil))
end
end Ew

/-! EwLenum: list(enumerate(l)), l a list. -/
namespace Ew
open PySem L2 PySem.Spec PyProof.Rows
open Sem (wp)

theorem en_no_len : typeLookup (.type "enumerate") "__len__" = pure none := by rw [typeLookup_type, builtinLookup_eq_fast]; kernel_rfl
theorem en_no_hint : typeLookup (.type "enumerate") "__length_hint__" = pure none := by rw [typeLookup_type, builtinLookup_eq_fast]; kernel_rfl
section
variable {prog : Program} {w : World} {A : Around} {s : Shared} {R : Result → Shared → Prop} {S e it l : Addr} {items : Array Value}
/-- the iterator's state, the tuples that it gave out still there -/
def EnAt (S e it l : Addr) (items : Array Value) (i : Nat) (h : Heap) : Prop := h.IsListIter it l i ∧ h.IsList l items ∧ ((∃ old, IsEnum h e it (i : Nat) old) ∨ ∃ old T f oT, IsEnumHeld h e it (i : Nat) old T f ∧ h.get? T = some oT ∧ T ≠ e ∧ T ≠ it ∧ T ≠ S)
/-- what is collected -/
def AccAt (S e it : Addr) (items : Array Value) (h : Heap) (acc : Array Value) (i : Nat) : Prop := acc.size = i ∧ ∀ (j : Nat) (v : Value), acc[j]? = some v → ∃ T t x, v = .ref T ∧ S < T ∧ T ≠ e ∧ T ≠ it ∧ items[j]? = some x ∧ h.get? T = some { cls := .type "tuple", data := .seq #[.int (j : Nat) t, x] }
theorem le_loop (hA : A.handled = none) (d1 : e ≠ it) (d2 : l ≠ e) (d3 : l ≠ it) (d4 : S ≠ e) (d5 : S ≠ it) (d6 : S ≠ l) (hn : items.size ≤ sizeLine) (res : Value) :
    ∀ (k i : Nat) (s : Shared) (acc : Array Value) (c : Nat), items.size - i = k → i ≤ items.size → EnAt S e it l items i s.heap → s.heap.get? S = some { cls := .type "list", dict := none, data := .seq acc c, slots := #[] } → AccAt S e it items s.heap acc i →
    (∀ h' tk acc' c', (∀ b o, b ≠ S → b ≠ e → b ≠ it → s.heap.get? b = some o → h'.get? b = some o) → h'.get? S = some { cls := .type "list", dict := none, data := .seq acc' c', slots := #[] } → AccAt S e it items h' acc' items.size → R (.ok (.ret res)) { s with heap := h', toks := tk }) →
    codeAny (model prog w) A (.builtin "list.extend.loop" ⟨[.ref S, .ref e, res], []⟩) R s := by
  intro k
  induction k with
  | zero =>
    intro i s acc c hk hi ⟨hit, hl, he⟩ hS ha hR
    have ei : i = items.size := by omega
    subst ei
    have hx : items[items.size]? = none := Array.getElem?_eq_none (Nat.le_refl _)
    refine codeAny_builtin F.entry_extend_loop ?_
    rw [Around.under_plainId F.plain_extend_loop _]
    show wpAny _ A.in1 (pyNext (.ref e) >>= _) _ _ s
    apply wpAny_bind
    have fin : ∀ h', Heap.ExtBut it s.heap h' → R (.ok (.ret res)) { s with heap := h' } := fun h' ex => hR h' s.toks acc c (fun b o _ _ b3 q => ex b o b3 q) (ex _ _ d5 hS) ⟨ha.1, fun j v q => by
      obtain ⟨T, t, x, r1, r2, r3, r4, r5, r6⟩ := ha.2 j v q
      exact ⟨T, t, x, r1, r2, r3, r4, r5, ex _ _ r4 r6⟩⟩
    rcases he with ⟨old, he⟩ | ⟨old, T, f, oT, he, hT, r1, r2, r3⟩
    · exact wpAny_pyNext_enum_end (A := A.in1) hA he hit hl hx fun h' ex => wpAny_pure (fin h' ex)
    · exact wpAny_pyNext_enum_end_held (A := A.in1) hA he hit hl hx fun h' ex => wpAny_pure (fin h' ex)
  | succ k ih =>
    intro i s acc c hk hi ⟨hit, hl, he⟩ hS ha hR
    have lt : i < items.size := by omega
    have ex := Array.getElem?_eq_getElem lt
    have ec : ((i + 1 : Nat) : Int) = (i : Int) + 1 := by omega
    have old_lt : ∀ {b o}, s.heap.get? b = some o → s.heap.objs.size ≠ b := fun q => Nat.ne_of_gt (Heap.lt_size q)
    have nS := old_lt hS
    have nit : s.heap.objs.size ≠ it := let ⟨_, q, _⟩ := hit; old_lt q
    refine codeAny_builtin F.entry_extend_loop ?_
    rw [Around.under_plainId F.plain_extend_loop _]
    show wpAny _ A.in1 (pyNext (.ref e) >>= _) _ _ s
    apply wpAny_bind
    have step : ∀ (h' : Heap), s.heap.objs.size ≠ e → h'.IsListIter it l (i + 1) → h'.get? s.heap.objs.size = some { cls := .type "tuple", data := .seq #[.int (i : Nat) s.toks, items[i]] } → (∀ b o, b ≠ e → b ≠ it → s.heap.get? b = some o → h'.get? b = some o) →
        (∃ old T f oT, IsEnumHeld h' e it ((i + 1 : Nat) : Int) old T f ∧ h'.get? T = some oT ∧ T ≠ e ∧ T ≠ it ∧ T ≠ S) →
        wpAny (model prog w) A.in1 (updateSeq S (·.push (.ref s.heap.objs.size)) >>= fun _ => again (.builtin "list.extend.loop" ⟨[.ref S, .ref e, res], []⟩)) (fun fin s' => match fin with | .done f => R (.ok f) s' | .again c' => c'.quiet = true ∧ codeAny (model prog w) A c' R s') (fun e s' => R (.error e) s') { s with heap := h', toks := s.toks + 1 } := by
      rintro h' ne hit' hT kp ⟨old, T, f, oT, q1, q2, q3, q4, q5⟩
      have hS' := kp _ _ d4 d5 hS
      have oth : ∀ b o, b ≠ S → h'.get? b = some o → (h'.update S (Obj.mapSeq (·.push (Value.ref s.heap.objs.size)))).get? b = some o := fun b o hb q => (Heap.get?_update_other _ _ (Ne.symm hb)).trans q
      apply wpAny_bind
      refine wpAny_updateSeq (s := { s with heap := h', toks := s.toks + 1 }) hS' rfl (wpAny_pure ⟨plainId_quiet F.plain_extend_loop _, ih (i + 1) _ (acc.push (.ref s.heap.objs.size)) _ (by omega) lt ⟨hit'.at fun o q => oth _ o (Ne.symm d5) q, (hl.at fun o q => kp _ o d2 d3 q).at fun o q => oth _ o (Ne.symm d6) q, .inr ⟨old, T, f, oT, oth _ _ (Ne.symm d4) q1, oth _ _ q5 q2, q3, q4, q5⟩⟩
        (Heap.get?_update_self _ hS' rfl) ⟨?_, fun j v q => ?_⟩ fun h'' tk acc' c' k1 k2 k3 => ?_⟩) (by rw [ha.1]; omega) (by show (acc.push (.ref s.heap.objs.size)).size ≤ sizeLine + 1; rw [Array.size_push, ha.1]; omega)
      · rw [Array.size_push, ha.1]
      · rw [Array.getElem?_push] at q
        split at q
        · rename_i ej
          rw [ha.1] at ej
          subst ej
          cases q
          exact ⟨_, _, _, rfl, Heap.lt_size hS, ne, nit, ex, oth _ _ nS hT⟩
        · obtain ⟨T', t', x', p1, p2, p3, p4, p5, p6⟩ := ha.2 j v q
          exact ⟨T', t', x', p1, p2, p3, p4, p5, oth _ _ (Nat.ne_of_gt p2) (kp _ _ p3 p4 p6)⟩
      · exact hR h'' tk acc' c' (fun b o b1 b2 b3 q => k1 b o b1 b2 b3 (oth _ _ b1 (kp b o b2 b3 q))) k2 k3
    rcases he with ⟨old, he⟩ | ⟨old, T, f, oT, he, hT, r1, r2, r3⟩
    · have ne := old_lt he
      exact wpAny_pyNext_enum_item he hit hl ex d1 fun h' ho hit' hT hsz kp => step h' ne hit' hT kp ⟨_, s.heap.objs.size, false, _, (by rw [ec]; exact ho), hT, ne, nit, nS⟩
    · have ne := old_lt he
      exact wpAny_pyNext_enum_item_held he hT r1 r2 hit hl ex d1 fun h' ho hit' hT' hsz kp => step h' ne hit' hT' kp ⟨old, T, true, oT, (by rw [ec]; exact ho), kp _ _ r1 r2 hT, r1, r2, r3⟩
theorem le_init (hA : A.handled = none) (d1 : e ≠ it) (d2 : l ≠ e) (d3 : l ≠ it) (d4 : S ≠ e) (d5 : S ≠ it) (d6 : S ≠ l) (hn : items.size ≤ sizeLine) (hS : s.heap.get? S = some { cls := .type "list", data := .seq #[] })
    (en : EnAt S e it l items 0 s.heap) (he : ∃ old, IsEnum s.heap e it 0 old)
    (hR : ∀ h' tk acc' c', (∀ b o, b ≠ S → b ≠ e → b ≠ it → s.heap.get? b = some o → h'.get? b = some o) → h'.get? S = some { cls := .type "list", dict := none, data := .seq acc' c', slots := #[] } → AccAt S e it items h' acc' items.size → R (.ok (.ret .none)) { s with heap := h', toks := tk }) :
    wpAny (model prog w) A.in1 (Builtin.«list.__init__» ⟨[.ref S, .ref e], []⟩) (fun fin s' => match fin with | .done f => R (.ok f) s' | .again c' => c'.quiet = true ∧ codeAny (model prog w) A c' R s') (fun e s' => R (.error e) s') s := by
  show wpAny _ A.in1 (do let old ← Builtin.List.listItems (.ref S); Builtin.List.listUpdate (.ref S) (fun _ => #[]); letGo old.toList.reverse; Builtin.List.listExtendWith (.ref S) (.ref e) .none) _ _ s
  apply wpAny_bind
  unfold Builtin.List.listItems
  apply wpAny_bind
  refine wpAny_seqItems hS rfl (wpAny_pure ?_)
  show wpAny _ A.in1 (updateSeq S (fun _ => #[]) >>= fun _ => letGo (#[] : Array Value).toList.reverse >>= fun _ => Builtin.List.listExtendWith (.ref S) (.ref e) .none) _ _ s
  apply wpAny_bind
  refine wpAny_updateSeq hS rfl ?_
  have S2 := Heap.get?_update_self (Obj.mapSeq (fun _ => (#[] : Array Value))) hS rfl
  have o2 : ∀ b o, b ≠ S → s.heap.get? b = some o → (s.heap.update S (Obj.mapSeq (fun _ => (#[] : Array Value)))).get? b = some o := fun b o hb q => (Heap.get?_update_other _ _ (Ne.symm hb)).trans q
  apply wpAny_bind
  refine wpAny_letGo ?_
  obtain ⟨old, he⟩ := he
  have he2 := o2 _ _ (Ne.symm d4) he
  generalize hh2 : s.heap.update S (Obj.mapSeq (fun _ => (#[] : Array Value))) = h2 at S2 o2 he2
  have ty : ({ s with heap := h2 } : Shared).TypeIs (.ref e) "enumerate" := ⟨_, he2, rfl⟩
  unfold Builtin.List.listExtendWith
  apply wpAny_bind
  refine wpAny_typeOf ty ?_
  have c1 : Builtin.List.listSameRef (.ref S) (.ref e) = false := by simp [Builtin.List.listSameRef, d4]
  have c2 : (Value.type "enumerate" == Value.type "list") = false := by decide
  have c3 : (Value.type "enumerate" == Value.type "tuple") = false := by decide
  simp only [c1, c2, c3, Bool.or_false, Bool.false_eq_true, if_false]
  apply wpAny_bind
  refine wpAny_pyIter_enum he2 ?_
  apply wpAny_bind
  refine wpAny_holding ?_
  unfold Builtin.List.listLengthHint
  apply wpAny_bind
  refine wpAny_specialOf ty en_no_len ?_
  show wpAny _ A.in1 (specialOf (Value.ref e) (Str.ofString "__length_hint__") >>= _) _ _ _
  apply wpAny_bind
  refine wpAny_specialOf ty en_no_hint ?_
  refine wpAny_pure ?_
  show wpAny _ A.in1 (rule "list.extend.makes-room" >>= fun _ => Builtin.List.listTouch (.ref S) >>= fun _ => again (.builtin "list.extend.loop" ⟨[.ref S, .ref e, .none], []⟩)) _ _ _
  apply wpAny_bind
  refine wpAny_rule ?_
  apply wpAny_bind
  show wpAny _ A.in1 (updateSeq S (·.push .none) >>= fun _ => updateSeq S (·.pop)) _ _ _
  apply wpAny_bind
  refine wpAny_updateSeq S2 rfl ?_
  have S3 := Heap.get?_update_self (Obj.mapSeq (·.push Value.none)) S2 rfl
  refine wpAny_updateSeq (hz := by seq_fits) S3 rfl ?_
  have S4 := Heap.get?_update_self (Obj.mapSeq (·.pop)) S3 rfl
  have o4 : ∀ b o, b ≠ S → s.heap.get? b = some o → ((h2.update S (Obj.mapSeq (·.push Value.none))).update S (Obj.mapSeq (·.pop))).get? b = some o := fun b o hb q => (Heap.get?_update_other _ _ (Ne.symm hb)).trans ((Heap.get?_update_other _ _ (Ne.symm hb)).trans (o2 b o hb q))
  obtain ⟨hit, hl, _⟩ := en
  refine wpAny_pure ⟨plainId_quiet F.plain_extend_loop _, le_loop (S := S) hA d1 d2 d3 d4 d5 d6 hn .none items.size 0 _ _ _ rfl (Nat.zero_le _) ⟨hit.at fun o q => o4 _ o (Ne.symm d5) q, hl.at fun o q => o4 _ o (Ne.symm d6) q, .inl ⟨old, o4 _ _ (Ne.symm d4) he⟩⟩ S4 ⟨rfl, fun j v q => by simp at q⟩ fun h' tk acc' c' k1 k2 k3 => ?_⟩
  exact hR h' tk acc' c' (fun b o b1 b2 b3 q => k1 b o b1 b2 b3 (o4 b o b1 q)) k2 k3
end
section
variable {prog : Program} {w : World} {A : Around} {E : Value → Shared → Prop} {s : Shared} {e it l : Addr} {items : Array Value}
theorem call_le {Q : Value → Shared → Prop} (hA : A.handled = none) (d1 : e ≠ it) (d2 : l ≠ e) (d3 : l ≠ it) (hn : items.size ≤ sizeLine) (hit : s.heap.IsListIter it l 0) (hl : s.heap.IsList l items) (he : ∃ old, IsEnum s.heap e it 0 old)
    (hQ : ∀ h' tk acc' c', (∀ b o, b ≠ e → b ≠ it → s.heap.get? b = some o → h'.get? b = some o) → h'.get? s.heap.objs.size = some { cls := .type "list", dict := none, data := .seq acc' c', slots := #[] } → AccAt s.heap.objs.size e it items h' acc' items.size → Q (.ref s.heap.objs.size) { s with heap := h', toks := tk }) :
    wpAny (model prog w) A (call (.type "list") [.ref e]) Q E s := by
  refine callType_codes (Q₁ := fun obj s₁ => obj = .ref s.heap.objs.size ∧ s₁ = { s with heap := s.heap.push { cls := .type "list", data := .seq #[] } }) F.called_list (F.typeCall_list_1 _) F.entry_list_init (code_list_new _ ⟨rfl, rfl⟩) ?_
  rintro obj s₁ ⟨rfl, rfl⟩
  have hS : (s.heap.push { cls := .type "list", data := .seq #[] }).get? s.heap.objs.size = some { cls := .type "list", data := .seq #[] } := Heap.get?_push_size _ rfl
  have pu : ∀ b o, s.heap.get? b = some o → (s.heap.push { cls := .type "list", data := .seq #[] }).get? b = some o := fun b o q => Heap.get?_push_of_some _ q
  obtain ⟨old, he⟩ := he
  have lt : ∀ {b o}, s.heap.get? b = some o → s.heap.objs.size ≠ b := fun q => Nat.ne_of_gt (Heap.lt_size q)
  have d5 : s.heap.objs.size ≠ it := let ⟨_, q, _⟩ := hit; lt q
  have d6 : s.heap.objs.size ≠ l := let ⟨_, q, _⟩ := hl; lt q
  refine ⟨⟨_, hS, rfl⟩, F.args_list_init_2 _ _, le_init (A := A.in1) hA d1 d2 d3 (lt he) d5 d6 hn hS ⟨hit.at fun o q => pu _ o q, hl.at fun o q => pu _ o q, .inl ⟨old, pu _ _ he⟩⟩ ⟨old, pu _ _ he⟩ fun h' tk acc' c' k1 k2 k3 => ?_⟩
  exact ⟨rfl, hQ h' tk acc' c' (fun b o b2 b3 q => k1 b o (Ne.symm (lt q)) b2 b3 (pu b o q)) k2 k3⟩
end

/-! ### several new objects at once -/
def ovl (H : Hp) : List (Addr × HO) → Hp
  | [] => H
  | p :: L => upd (ovl H L) p.1 p.2
theorem ovl_out {H : Hp} {b : Addr} : ∀ {L : List (Addr × HO)}, (∀ p ∈ L, p.1 ≠ b) → ovl H L b = H b
  | [], _ => rfl
  | p :: L, h => by
    show upd (ovl H L) p.1 p.2 b = H b
    rw [upd_ne (Ne.symm (h p (List.mem_cons_self ..)))]
    exact ovl_out fun q m => h q (List.mem_cons_of_mem _ m)
theorem ovl_cases {H : Hp} {b : Addr} {u : HO} : ∀ {L : List (Addr × HO)}, ovl H L b = some u → (b, u) ∈ L ∨ ((∀ p ∈ L, p.1 ≠ b) ∧ H b = some u)
  | [], h => .inr ⟨fun p m => absurd m List.not_mem_nil, h⟩
  | p :: L, h => by
    have h' : upd (ovl H L) p.1 p.2 b = some u := h
    by_cases e : b = p.1
    · subst e
      rw [upd_same] at h'
      cases h'
      exact .inl (List.mem_cons_self ..)
    · rw [upd_ne e] at h'
      rcases ovl_cases h' with m | ⟨m, q⟩
      · exact .inl (List.mem_cons_of_mem _ m)
      · refine .inr ⟨fun r hr => ?_, q⟩
        rcases List.mem_cons.mp hr with z | z
        · rw [z]; exact Ne.symm e
        · exact m r z
theorem ovl_in {H : Hp} {a : Addr} {o : HO} : ∀ {L : List (Addr × HO)}, (L.map (·.1)).Nodup → (a, o) ∈ L → ovl H L a = some o
  | p :: L, nd, m => by
    show upd (ovl H L) p.1 p.2 a = some o
    rw [List.map_cons, List.nodup_cons] at nd
    rcases List.mem_cons.mp m with e | m
    · rw [← e]; exact upd_same
    · have ne : a ≠ p.1 := fun z => nd.1 (z ▸ List.mem_map_of_mem (f := fun q : Addr × HO => q.1) m)
      rw [upd_ne ne]
      exact ovl_in nd.2 m
theorem lay_many {X : Cx} {pins : List (Addr × Obj)} {σ : St} {H : Hp} {s : Shared} {h' : Heap} {t' : Nat} {ch : List Addr} {L : List (Addr × HO)} (I : Inv X pins σ H s) (k : ∀ b o, b ∉ ch → s.heap.get? b = some o → h'.get? b = some o) (hf : ∀ b ∈ ch, FpOk X pins H b)
    (hL : ∀ p ∈ L, s.heap.objs.size ≤ p.1) (new : ∀ p ∈ L, ObjOk X.prog X.w (ovl H L) h' p.1 p.2) : Inv X pins σ (ovl H L) { s with heap := h', toks := t' } := by
  have out : ∀ {b : Addr}, b < s.heap.objs.size → ovl H L b = H b := fun {b} hb => ovl_out fun p m z => absurd (hL p m) (by rw [z]; exact Nat.not_le.mpr hb)
  have old : ∀ {b : Addr} {u : HO}, H b = some u → ovl H L b = some u := fun {b u} e => (out (I.hok.lt e)).trans e
  have nit : ∀ b u, H b = some u → b ∉ ch := fun b u e z => by
    have q := (hf b z).1
    rw [q] at e; cases e
  refine I.step (g' := s.gens) (d' := s.drawn) (ch := ch) (fun b hb => ⟨(hf b hb).2.2.2.1, (hf b hb).2.1, (hf b hb).2.2.2.2.1, (hf b hb).2.2.2.2.2⟩) (fun b o _ _ hc e _ => k b o hc e) (fun b o _ _ hc e _ => ⟨o.slots, k b o hc e⟩) (fun b o _ e n => (out (Heap.lt_size e)).trans n) (fun b o hc e => ⟨o, k b o hc e⟩)
    (fun b xs e => old e) (fun b o u e => old e) (fun b ps e => ⟨#[], by rw [old e]; simp⟩) (fun m hm => ?_) (fun b u e => ?_) I.bare
  · obtain ⟨o, es, ep, ho, r⟩ := hm
    exact ⟨o, es, ep, k _ o (fun z => (hf _ z).2.1 rfl) ho, r⟩
  · rcases ovl_cases e with m | ⟨m, q⟩
    · exact new _ m
    · refine (I.hok b u q).stay (fun c v hc q' => k c v ?_ q') (fun c q' => old q') fun c xs q' => old q'
      rcases hc with z | z
      · rw [z]; exact nit b u q
      · exact nit c _ z

/-- the tuples (0, x), (1, y), .. at Ts -/
def tupL : Nat → List Addr → List V → List (Addr × HO)
  | n, T :: Ts, x :: xs => (T, .tup [.int (n : Nat), x]) :: tupL (n + 1) Ts xs
  | _, _, _ => []
theorem tupL_mem : ∀ {n : Nat} {Ts : List Addr} {xs : List V} {p : Addr × HO}, p ∈ tupL n Ts xs → ∃ (j : Nat) (x : V), Ts[j]? = some p.1 ∧ xs[j]? = some x ∧ p.2 = .tup [.int ((n + j : Nat)), x]
  | _, [], _, _, h => by simp [tupL] at h
  | _, _ :: _, [], _, h => by simp [tupL] at h
  | n, T :: Ts, x :: xs, p, h => by
    rcases List.mem_cons.mp h with e | h
    · exact ⟨0, x, by rw [e]; rfl, rfl, by rw [e]; rfl⟩
    · obtain ⟨j, y, h1, h2, h3⟩ := tupL_mem h
      exact ⟨j + 1, y, by simpa using h1, by simpa using h2, by rw [h3, show n + 1 + j = n + (j + 1) by omega]⟩
theorem tupL_at : ∀ {n : Nat} {Ts : List Addr} {xs : List V} {j : Nat} {T : Addr} {x : V}, Ts[j]? = some T → xs[j]? = some x → (T, HO.tup [.int ((n + j : Nat)), x]) ∈ tupL n Ts xs
  | _, [], _, _, _, _, h, _ => by simp at h
  | _, _ :: _, [], _, _, _, _, h => by simp at h
  | n, T :: Ts, x :: xs, 0, _, _, h1, h2 => by
    simp at h1 h2
    subst h1
    subst h2
    exact List.mem_cons_self ..
  | n, T :: Ts, x :: xs, j + 1, T', x', h1, h2 => by
    have := tupL_at (n := n + 1) (Ts := Ts) (xs := xs) (j := j) (by simpa using h1) (by simpa using h2)
    rw [show n + (j + 1) = n + 1 + j by omega]
    exact List.mem_cons_of_mem _ this
theorem tupL_map : ∀ {n : Nat} {Ts : List Addr} {xs : List V}, Ts.length = xs.length → (tupL n Ts xs).map (·.1) = Ts
  | _, [], _, _ => by simp [tupL]
  | _, _ :: _, [], h => by simp at h
  | n, T :: Ts, x :: xs, h => by
    simp only [tupL, List.map_cons]
    rw [tupL_map (by simpa using h)]
def adr : Value → Addr
  | .ref a => a
  | _ => 0
def tLe (K : PySem.W.Frag) (ta : TA) : TE := fun σ H Q => ta σ H fun vs H1 => ∃ (a : Addr) (xs : List V), vs = [.ref a] ∧ SqL K H1 a xs ∧
  ∀ (S : Addr) (Ts : List Addr), H1 S = none → Ts.length = xs.length → (S :: Ts).Nodup → (∀ T ∈ Ts, H1 T = none) → Q (.ref S) (ovl H1 ((S, .lst (Ts.map V.ref)) :: tupL 0 Ts xs))
theorem pe_le {X : Cx} (hc : X.calm = true) {e : Expr} {ta : TA} {p p' pos pos' : Pos} (hg : Gl X "list") (hm : X.mg "list" = none) (hg' : Gl X "enumerate") (hm' : X.mg "enumerate" = none) (hb : bootBuiltins "list" = some (.type "list")) (ha : PA X [e] ta) (hs : starEach [e] X.env = [(false, eval e X.env)] := by rfl)
    (hs2 : starEach [.Call (.Name "enumerate" p') [e] [] pos'] X.env = [(false, eval (.Call (.Name "enumerate" p') [e] [] pos') X.env)] := by rfl) :
    PE X (.Call (.Name "list" p) [.Call (.Name "enumerate" p') [e] [] pos'] [] pos) (tLe X.K ta) := by
  refine ⟨fun pins s σ H Q I h => ?_⟩
  refine Call_ (ld_blt I hg hm hb (PyProof.Rows.callWith_type1 ?_ hs2 rfl))
  rw [hs2]
  refine Calls.spliced_cons ?_
  refine Call_ (ld_blt I hg' hm' boot_enumerate (PyProof.Rows.callWith_type1 (thn (ha.run pos' pins s σ H _ I h) ?_) hs rfl))
  rintro us s1 ⟨vs, H1, I1, r1, a, xs, rfl, hsrc, q⟩
  obtain ⟨u, rfl, ru⟩ := vals1 r1
  cases ru
  obtain ⟨its, rv, pl, hz⟩ := I1.list hsrc
  have la : a < s1.heap.objs.size := pl.lt
  have hlen := rv.length
  refine call_enumerate_list pl.isList fun h' he hit hsz hk => ?_
  have I2 : Inv X pins σ H1 { s1 with heap := h' } := I1.kept (t' := s1.toks) hk
  refine Calls.spliced_nil ?_
  have d2 : a ≠ s1.heap.objs.size + 1 := Nat.ne_of_lt (Nat.lt_succ_of_lt la)
  have d3 : a ≠ s1.heap.objs.size := Nat.ne_of_lt la
  refine call_le (s := { s1 with heap := h' }) (I.ok.hd hc) (Nat.succ_ne_self _) d2 d3 (items := its.toArray) (by rw [List.size_toArray, ← hlen]; exact hz) hit (pl.isList.at fun o q => hk _ o q) ⟨_, he⟩ fun h'' tk acc c k1 k2 k3 => ?_
  obtain ⟨k3, k4⟩ := k3
  have S_ge : s1.heap.objs.size ≤ h'.objs.size := by rw [hsz]; exact Nat.le_add_right _ _
  have ge : ∀ {b : Addr}, s1.heap.objs.size ≤ b → H1 b = none := fun {b} hb => I1.hok.fresh hb
  -- the tuples' places
  have acl : acc.toList.length = xs.length := by rw [Array.length_toList, k3, List.size_toArray, hlen]
  have atj : ∀ (j : Nat) (v : Value), acc.toList[j]? = some v → ∃ T t x, v = .ref T ∧ h'.objs.size < T ∧ its[j]? = some x ∧ h''.get? T = some { cls := .type "tuple", data := .seq #[.int (j : Nat) t, x] } := fun j v ev => by
    obtain ⟨T, t, x, r1, r2, _, _, r5, r6⟩ := k4 j v (by simpa using ev)
    exact ⟨T, t, x, r1, r2, by simpa using r5, r6⟩
  have Tat : ∀ (j : Nat) (T : Addr), (acc.toList.map adr)[j]? = some T → h'.objs.size < T ∧ acc.toList[j]? = some (.ref T) ∧ ∃ t x, its[j]? = some x ∧ h''.get? T = some { cls := .type "tuple", data := .seq #[.int (j : Nat) t, x] } := fun j T eT => by
    rw [List.getElem?_map] at eT
    obtain ⟨v, ev, e2⟩ := Option.map_eq_some_iff.mp eT
    obtain ⟨T', t, x, rfl, r2, r3, r4⟩ := atj j v ev
    have : T' = T := e2
    subst this
    exact ⟨r2, ev, t, x, r3, r4⟩
  have nd : (h'.objs.size :: acc.toList.map adr).Nodup := by
    rw [List.nodup_cons]
    refine ⟨fun m => ?_, ?_⟩
    · obtain ⟨j, ej⟩ := List.getElem?_of_mem m
      exact absurd (Tat j _ ej).1 (Nat.lt_irrefl _)
    · rw [List.nodup_iff_pairwise_ne, List.pairwise_iff_getElem]
      intro i j hi hj hij e
      obtain ⟨_, _, t, x, _, g1⟩ := Tat i _ (List.getElem?_eq_getElem hi)
      obtain ⟨_, _, t', x', _, g2⟩ := Tat j _ (List.getElem?_eq_getElem hj)
      rw [e] at g1
      rw [g1] at g2
      simp at g2
      omega
  have tl : (acc.toList.map adr).length = xs.length := by rw [List.length_map, acl]
  have nd' : (((h'.objs.size, HO.lst ((acc.toList.map adr).map V.ref)) :: tupL 0 (acc.toList.map adr) xs).map (·.1)).Nodup := by
    rw [List.map_cons, tupL_map tl]
    exact nd
  refine ⟨.ref h'.objs.size, _, lay_many (t' := tk) (ch := [s1.heap.objs.size + 1, s1.heap.objs.size]) (L := (h'.objs.size, .lst ((acc.toList.map adr).map V.ref)) :: tupL 0 (acc.toList.map adr) xs) I2 (fun b o hb e => k1 b o (fun z => hb (by simp [z])) (fun z => hb (by simp [z])) e) (fun b hb => ?_) (fun p hp => ?_) (fun p hp => ?_), rfl, q h'.objs.size (acc.toList.map adr) (ge S_ge) tl nd fun T hT => ?_⟩
  · have e' : b = s1.heap.objs.size + 1 ∨ b = s1.heap.objs.size := by simpa using hb
    have hle : s1.heap.objs.size ≤ b := by
      rcases e' with z | z <;> rw [z]
      · exact Nat.le_succ _
      · exact Nat.le_refl _
    exact I1.fpOk hle (ge hle)
  · rcases List.mem_cons.mp hp with z | z
    · rw [z]; exact Nat.le_refl _
    · obtain ⟨j, x, h1, _, _⟩ := tupL_mem z
      exact Nat.le_of_lt (Tat j _ h1).1
  · rcases List.mem_cons.mp hp with z | z
    · rw [z]
      refine ⟨by rw [List.length_map, tl]; exact hz, acc.toList, c, ?_, by simpa using k2⟩
      rw [List.map_map]
      have key : ∀ l : List Value, (∀ v ∈ l, ∃ T, v = .ref T) → Vals (l.map (V.ref ∘ adr)) l := by
        intro l
        induction l with
        | nil => intro _; exact .nil
        | cons v l ih =>
          intro hl
          obtain ⟨T, e⟩ := hl v (List.mem_cons_self ..)
          subst e
          exact .cons rfl (ih fun w m => hl w (List.mem_cons_of_mem _ m))
      refine key _ fun v m => ?_
      obtain ⟨j, ej⟩ := List.getElem?_of_mem m
      obtain ⟨T, _, _, e, _⟩ := atj j v ej
      exact ⟨T, e⟩
    · obtain ⟨j, x, h1, h2, h3⟩ := tupL_mem z
      obtain ⟨_, _, t, y, g1, g2⟩ := Tat j _ h1
      obtain ⟨u, hu, ru⟩ := rv.get h2
      rw [g1] at hu
      cases hu
      obtain ⟨p1, p2⟩ := p
      simp only at h3 h1 g2
      subst h3
      refine ⟨by show 2 ≤ sizeLine; decide, [.int (j : Nat) t, y], .cons ⟨t, by rw [Nat.zero_add]⟩ (.cons ru .nil), ⟨_, g2, rfl, _, rfl⟩⟩
  · obtain ⟨j, ej⟩ := List.getElem?_of_mem hT
    exact ge (Nat.le_trans S_ge (Nat.le_of_lt (Tat j _ ej).1))

/-! ### as data -/
def leF (f : Fa) : Fn := fun env => (f env).bind fun x => match x.1 with
  | [.list ds] => some (.list (enumL 0 ds), x.2)
  | _ => none
theorem leF_inv {f : Fa} {env env' : En} {d : D} (q : leF f env = some (d, env')) : ∃ ds, f env = some ([.list ds], env') ∧ d = .list (enumL 0 ds) := by
  obtain ⟨⟨l, env1⟩, q1, q⟩ := Option.bind_eq_some_iff.mp q
  dsimp only at q
  split at q
  · cases q
    exact ⟨_, q1, rfl⟩
  · cases q
theorem fz_tups {K : PySem.W.Frag} {F : Addr → Prop} {H : Hp} : ∀ {n : Nat} {Ts : List Addr} {xs : List V} {ds : List D}, FzAll K F H xs ds → Ts.length = xs.length → (∀ (j : Nat) (T : Addr) (x : V), Ts[j]? = some T → xs[j]? = some x → H T = some (.tup [.int ((n + j : Nat)), x])) → FzAll K F H (Ts.map V.ref) (enumL n ds)
  | _, [], _, _, .nil, _, _ => .nil
  | _, _ :: _, _, _, .nil, h, _ => by simp at h
  | _, [], _, _, .cons _ _, h, _ => by simp at h
  | n, T :: Ts, x :: xs, d :: ds, .cons z t, h, at_ => by
    refine .cons (.tup (SqT.of (at_ 0 T x rfl rfl)) (.cons (.int _) (.cons z .nil))) (fz_tups t (by simpa using h) fun j T' x' h1 h2 => ?_)
    rw [show n + 1 + j = n + (j + 1) by omega]
    exact at_ (j + 1) T' x' (by simpa using h1) (by simpa using h2)
section
variable {X : Cx} {a0 : Addr} {e : Expr} {fa : Fa} {p p' pos pos' : Pos}
theorem so_le (hc : X.calm = true) (hg : Gl X "list") (hm : X.mg "list" = none) (hg' : Gl X "enumerate") (hm' : X.mg "enumerate" = none) (hb : bootBuiltins "list" = some (.type "list")) (ha : SF X a0 [e] fa) (hs : starEach [e] X.env = [(false, eval e X.env)] := by rfl)
    (hs2 : starEach [.Call (.Name "enumerate" p') [e] [] pos'] X.env = [(false, eval (.Call (.Name "enumerate" p') [e] [] pos') X.env)] := by rfl) : SO X a0 (.Call (.Name "list" p) [.Call (.Name "enumerate" p') [e] [] pos'] [] pos) (leF fa) := by
  obtain ⟨ts, _, h2, h3⟩ := ha.ex
  refine ⟨PEimp (pe_le hc hg hm hg' hm' hb h2 hs hs2) fun σ H Q ⟨F, env, R, d, env', q, k⟩ => h3 σ H _ ?_⟩
  obtain ⟨ds, q1, rfl⟩ := leF_inv q
  refine ⟨F, env, R, _, _, q1, fun vs F1 H1 S1 R1 z => ?_⟩
  cases z with
  | cons z z' =>
    cases z'
    obtain ⟨a, xs, rfl, h1, w⟩ := Br.list (.inl z)
    refine ⟨a, xs, rfl, h1.sq, fun S Ts hS hl nd hT => ?_⟩
    have fresh : ∀ p ∈ ((S, HO.lst (Ts.map V.ref)) :: tupL 0 Ts xs), H1 p.1 = none := fun p hp => by
      rcases List.mem_cons.mp hp with z | z
      · rw [z]; exact hS
      · obtain ⟨j, x, e1, _, _⟩ := tupL_mem z
        exact hT _ (List.mem_of_getElem? e1)
    have nd' : (((S, HO.lst (Ts.map V.ref)) :: tupL 0 Ts xs).map (·.1)).Nodup := by
      rw [List.map_cons, tupL_map hl]
      exact nd
    have G : Grow F1 H1 F1 (ovl H1 ((S, .lst (Ts.map V.ref)) :: tupL 0 Ts xs)) := ⟨fun _ f => f, fun _ f => .inl f, fun b o e => by
      rw [ovl_out fun p m z => by
        have := fresh p m
        rw [z, e] at this
        cases this]
      exact e⟩
    have atS := ovl_in (H := H1) nd' (List.mem_cons_self ..)
    refine k S F1 _ (S1.trans G.stp) (G.rel R1) (S1.new_of hS) (fun f => R1.fd S f hS) (fun w => (R1.owned w).2.2 hS) (.lst atS (fz_tups (n := 0) (G.fzAll w) hl fun j T x e1 e2 => ?_))
    exact ovl_in nd' (List.mem_cons_of_mem _ (tupL_at e1 e2))
end
end Ew

/-! EwMut: changes of what a name owns: methods of lists, stores at a place. -/
namespace Ew
open PySem L2

abbrev GU := D → List D → Option (D × D)
def rU' (K : PySem.W.Frag) (g : GU) : V → List V → Hp → VK → Prop := fun x xs H Q => ∃ F a d0 ds d d1, x = .ref a ∧ Bd K F H a d0 ∧ ¬ F a ∧ FzAll K F H xs ds ∧ (∀ b : Addr, F b → H b ≠ none) ∧ g d0 ds = some (d, d1) ∧
  ∀ v F' H', GrowM a F H F' H' → Bd K F' H' a d1 → ¬ F' a → Fz K F' H' v d → Q v H'
def mutF (n i : Nat) (G : GU) (f : Fa) : Fn := fun env => match look env i with
  | some (.list _) => callM n i G f env
  | _ => none
section
variable {X : Cx} {a0 : Addr} {id : String} {g : GU} {i : Nat} {y name : Str} {yp apos cpos : Pos} {e : Expr} {es : List Expr} {fa : Fa}
theorem mut_run {ts : List TE} {σ : St} {H : Hp} {Q : VK} {n : Nat} (h3 : ∀ σ H R, tAF X.K a0 fa σ H R → taOf ts σ H R) (h : tE X.K a0 (mutF n i g fa) σ H Q) : tBM X.K "list" (rU' X.K g) (tVar i) (taOf ts) σ H Q := by
  obtain ⟨F, env, R, d, env', q, kk⟩ := h
  unfold mutF at q
  split at q
  · rename_i l q00
    unfold callM at q
    obtain ⟨d00, q0, q⟩ := Option.bind_eq_some_iff.mp q
    obtain ⟨⟨ds, env1⟩, q1, q⟩ := Option.bind_eq_some_iff.mp q
    by_cases hl : ds.length + 1 = n
    · rw [if_pos hl] at q
      obtain ⟨s, q2, q⟩ := Option.bind_eq_some_iff.mp q
      by_cases hw : s.isOw = true
      · rw [if_pos hw] at q
        obtain ⟨d0, q3, q⟩ := Option.bind_eq_some_iff.mp q
        obtain ⟨⟨r, d1⟩, q4, q⟩ := Option.bind_eq_some_iff.mp q
        obtain ⟨s', q5, q⟩ := Option.map_eq_some_iff.mp q
        cases q
        obtain ⟨v0, hv0, b0⟩ := R.look q00
        refine ⟨v0, hv0, ?_, h3 σ H _ ⟨F, env, R, ds, env1, q1, fun vs F1 H1 S1 R1 z => ?_⟩⟩
        · obtain ⟨p, xs, rfl, h1, _⟩ := b0.list
          exact .inl ⟨rfl, xs, h1.sq⟩
        · obtain ⟨a, ha, nf, b⟩ := R1.addr q2 hw q3
          rw [hv0] at ha; cases ha
          refine ⟨F1, a, d0, ds, _, d1, rfl, b, nf, z, R1.fd, q4, fun v F2 H2 gr b2 nf2 fv => ?_⟩
          obtain ⟨R2, S2, _⟩ := R1.modify q2 q5 hv0 nf b.mut gr b2 nf2
          exact kk v F2 H2 (S1.trans S2) R2 fv
      · rw [if_neg hw] at q; cases q
    · rw [if_neg hl] at q; cases q
  · cases q
theorem se_mut (slot : Slot "list" name id) (hty : typeOf (.builtin id) = pure (.type "method_descriptor")) (hm : MtR X id (rU' X.K g)) (hN : X.N[i]? = some y) (hv : Vis X.env.scope y) (ha : SF X a0 (e :: es) fa)
    (hbase : attributeBase (.Name y yp) name X.env (eval (.Name y yp) X.env) = eval (.Name y yp) X.env := by rfl)
    (hfew : ((backTo cpos (starEach (e :: es) X.env)).all (fun x => !x.1) && (backToKw cpos (keywordEach [] X.env)).all (fun x => x.1.isSome)
      && decide ((e :: es).length + ([] : List Keyword).length + (if ([] : List Keyword).isEmpty then 0 else 1) < 30)) = true := by rfl)
    (hline : (apos.endLine == cpos.line) = true := by rfl) (hs : starEach (e :: es) X.env = (false, eval e X.env) :: starEach es X.env := by rfl) (hplain : (backTo cpos (starEach es X.env)).any (·.1) = false := by rfl) (hd : (y == ("__debug__" : Str)) = false := by decide) (hcd : (y == ("__classdict__" : Str)) = false := by decide) :
    SE X a0 (.Call (.Attribute (.Name y yp) name apos) (e :: es) [] cpos) (mutF (es.length + 2) i g fa) := by
  obtain ⟨ts, _, h2, h3⟩ := ha.ex
  exact ⟨PEimp (pe_bm PySem.F.plainAttrs_list slot hty hm (pe_var hN hv hd hcd) h2 hbase hfew hline hs hplain) fun σ H Q q => mut_run h3 q⟩
theorem se_mut0 (slot : Slot "list" name id) (hty : typeOf (.builtin id) = pure (.type "method_descriptor")) (hm : MtR X id (rU' X.K g)) (hN : X.N[i]? = some y) (hv : Vis X.env.scope y)
    (hbase : attributeBase (.Name y yp) name X.env (eval (.Name y yp) X.env) = eval (.Name y yp) X.env := by rfl) (hline : (apos.endLine == cpos.line) = true := by rfl) (hd : (y == ("__debug__" : Str)) = false := by decide) (hcd : (y == ("__classdict__" : Str)) = false := by decide) :
    SE X a0 (.Call (.Attribute (.Name y yp) name apos) [] [] cpos) (mutF 1 i g nilA) := by
  refine ⟨PEimp (pe_bm0 PySem.F.plainAttrs_list slot hty hm (pe_var hN hv hd hcd) hbase hline) fun σ H Q q => ?_⟩
  have z := mut_run (ts := []) (fun σ H R ⟨F, env, rel, ds, env', e, k⟩ => by cases e; exact k [] F H Stp.refl rel .nil) q
  obtain ⟨v, h1, h2, h3⟩ := z
  exact ⟨v, h1, h2, h3⟩
/-! each -/
theorem gm_upd {K : PySem.W.Frag} {F : Addr → Prop} {H : Hp} {a : Addr} {o : HO} : GrowM a F H F (upd H a o) := GrowM.of_upd
theorem fz_upd {K : PySem.W.Frag} {F : Addr → Prop} {H : Hp} {a : Addr} {o : HO} {xs : List V} {ds : List D} (nf : ¬ F a) (hm : Mut (H a)) (z : FzAll K F H xs ds) : FzAll K F (upd H a o) xs ds := z.mono (fun _ h => h) fun b u e h => by
  rw [upd_ne fun q => ?_]
  · exact e
  · subst q
    rcases h with h | h
    · exact nf h
    · rw [e] at hm; exact h hm
theorem fz_upd1 {K : PySem.W.Frag} {F : Addr → Prop} {H : Hp} {a : Addr} {o : HO} {v : V} {d : D} (nf : ¬ F a) (hm : Mut (H a)) (z : Fz K F H v d) : Fz K F (upd H a o) v d := by
  have := fz_upd (o := o) nf hm (.cons z .nil)
  cases this with
  | cons h _ => exact h
def appG : GU
  | .list ds, [d] => if ds.length < Sz then some (.none, .list (ds ++ [d])) else none
  | _, _ => none
theorem sz_lt {n : Nat} (h : n < Sz) : n < sizeLine := by rw [sizeLine_eq]; exact h
theorem m_append : MtR X "list.append" (rU' X.K appG) := by
  intro pins s σ H x xs v us Q I rx r hh
  obtain ⟨F, a, d0, ds, d, d1, rfl, b, nf, z, fd, q, k⟩ := hh
  unfold appG at q
  split at q
  · split at q
    · rename_i hz
      cases q
      cases b with
      | lst h w =>
        cases z with
        | cons z z' =>
          cases z'
          exact mt_append pins s σ H _ _ v us Q I rx r ⟨a, _, _, rfl, rfl, h, by rw [w.length]; exact sz_lt hz, k _ F _ GrowM.of_upd (.lst upd_same (fz_upd nf (by rw [h]; trivial) (w.append (.cons z .nil)))) nf .non⟩
    · cases q
  · cases q
def extG : GU
  | .list ds, [.list es] => if ds.length + es.length ≤ Sz then some (.none, .list (ds ++ es)) else none
  | _, _ => none
def popG : GU
  | .list ds, [] => (ds[ds.length - 1]?).map fun d => (d, .list ds.dropLast)
  | _, _ => none
theorem FzAll.dropLast {K F H} : ∀ {vs : List V} {ds : List D}, FzAll K F H vs ds → FzAll K F H vs.dropLast ds.dropLast
  | _, _, .nil => .nil
  | _, _, .cons h .nil => .nil
  | _, _, .cons h (.cons h' t) => .cons h (FzAll.dropLast (.cons h' t))
theorem m_pop : MtR X "list.pop" (rU' X.K popG) := by
  intro pins s σ H x xs v us Q I rx r hh
  obtain ⟨F, a, d0, ds, d, d1, rfl, b, nf, z, fd, q, k⟩ := hh
  unfold popG at q
  split at q
  · obtain ⟨dd, q1, q⟩ := Option.map_eq_some_iff.mp q
    cases q
    cases b with
    | lst h w =>
      cases z
      obtain ⟨y, ey, fy⟩ := w.get q1
      have hm : Mut (H a) := by rw [h]; trivial
      exact mt_pop pins s σ H _ _ v us Q I rx r ⟨a, _, y, rfl, rfl, h, by rw [w.length]; exact ey, k _ F _ GrowM.of_upd (.lst upd_same (fz_upd nf hm w.dropLast)) nf (fz_upd1 nf hm fy)⟩
  · cases q
/-! ### name[i] = .. -/
def subG (i : Nat) (f : Fn) : Fg := fun d env => (look env i).bind fun _ => (f env).bind fun x => match x.1 with
  | .int k => (x.2[i]?).bind fun s => if s.isOw = true then match s.val? with
      | some (.list ds) => (ixN ds.length k).bind fun j => (s.redo (.list (ds.set j d))).map fun s' => x.2.set i s'
      | _ => none
    else none
  | _ => none
theorem subG_inv {f : Fn} {d : D} {env env' : En} (q : subG i f d env = some env') : ∃ d0 k env1 s ds j s', look env i = some d0 ∧ f env = some (.int k, env1) ∧ env1[i]? = some s ∧ s.isOw = true ∧ s.val? = some (.list ds) ∧ ixN ds.length k = some j ∧ s.redo (.list (ds.set j d)) = some s' ∧ env' = env1.set i s' := by
  obtain ⟨d0, q0, q⟩ := Option.bind_eq_some_iff.mp q
  obtain ⟨⟨dk, env1⟩, q1, q⟩ := Option.bind_eq_some_iff.mp q
  dsimp only at q
  split at q
  · obtain ⟨s, q2, q⟩ := Option.bind_eq_some_iff.mp q
    split at q
    · rename_i hw
      split at q
      · rename_i ds hv
        obtain ⟨j, q3, q⟩ := Option.bind_eq_some_iff.mp q
        obtain ⟨s', q4, q⟩ := Option.map_eq_some_iff.mp q
        exact ⟨d0, _, env1, s, ds, j, s', q0, q1, q2, hw, hv, q3, q4, q.symm⟩
      · cases q
    · cases q
  · cases q
theorem sg_sub {ie : Expr} {f : Fn} {pos : Pos} (hN : X.N[i]? = some y) (hv : Vis X.env.scope y) (hi : SE X a0 ie f)
    (ha : ∀ v, assign (.Subscript (.Name y yp) ie pos) X.env v = (do
      let ov ← holding [v] (eval (.Name y yp) X.env)
      let iv ← holding [v, ov] (eval ie X.env)
      standAt pos
      holding [v, ov, iv] (setItem ov iv v)
      release [v, ov, iv] []) := by intro _; rfl) (hd : (y == ("__debug__" : Str)) = false := by decide) (hcd : (y == ("__classdict__" : Str)) = false := by decide) : SG X a0 [] (.Subscript (.Name y yp) ie pos) (subG i f) := by
  refine ⟨PGimp (pg_sub (pe_var hN hv hd hcd) hi.run set_list ha) fun v σ H Q ⟨F, env, R, d, env', z, q, k⟩ => ?_⟩
  obtain ⟨d0, kk, env1, s, ds, j, s', q0, q1, q2, hw, hvl, q3, q4, rfl⟩ := subG_inv q
  obtain ⟨v0, hv0, _⟩ := R.look q0
  refine ⟨v0, hv0, F, env, R, _, env1, q1, fun u F1 H1 S1 R1 zu => ?_⟩
  obtain ⟨a, ha, nf, b⟩ := R1.addr q2 hw hvl
  rw [hv0] at ha; cases ha
  have eu := Br.int (.inl zu)
  subst eu
  cases b with
  | lst h w =>
    have hm : Mut (H1 a) := by rw [h]; trivial
    refine ⟨a, _, kk, j, rfl, rfl, h, by rw [w.length]; exact q3, ?_⟩
    obtain ⟨R2, S2, _⟩ := R1.modify q2 q4 hv0 nf hm GrowM.of_upd (.lst upd_same (fz_upd nf hm (w.set (S1.fz R z) j))) nf
    exact k σ F1 _ (S1.trans S2) R2 ⟨rfl, fun _ _ => rfl⟩
end
end Ew

/-! EwW: the rules in short; facts of the head. -/
namespace Ew
open PySem L2

theorem Rm.u100 {k : Nat} {A : Around} (h : Rm k A) : A.units + 100 < cLine := by have := h.r.un; omega
theorem Rm.u65 {k : Nat} {A : Around} (h : Rm k A) : A.units + 65 < cLine := by have := h.r.un; omega
theorem Rm.u64 {k : Nat} {A : Around} (h : Rm k A) : A.units + 64 < cLine := by have := h.r.un; omega
theorem Rm.u1 {k : Nat} {A : Around} (h : Rm k A) : A.units + 1 < cLine := by have := h.r.un; omega
section
variable {X : Cx} {a0 : Addr} {pos : Pos} {x : Str} {es : List Expr} {g : Fa}
theorem nm (i : Nat) (hN : X.N[i]? = some x := by rfl) (hv : Vis X.env.scope x := by first | exact Or.inl rfl | exact Or.inr (Or.inl rfl) | exact Or.inr (Or.inr rfl)) (hd : (x == ("__debug__" : Str)) = false := by decide) (hcd : (x == ("__classdict__" : Str)) = false := by decide) : SE X a0 (.Name x pos) (vf i) := se_name hN hv hd hcd
theorem av (i : Nat) (hr : SA X a0 es g) (hN : X.N[i]? = some x := by rfl) (hv : Vis X.env.scope x := by first | exact Or.inl rfl | exact Or.inr (Or.inl rfl) | exact Or.inr (Or.inr rfl)) (hs : starEach (.Name x pos :: es) X.env = (false, eval (.Name x pos) X.env) :: starEach es X.env := by rfl)
    (hd : (x == ("__debug__" : Str)) = false := by decide) (hcd : (x == ("__classdict__" : Str)) = false := by decide) : SA X a0 (.Name x pos :: es) (consV i g) := sa_var hN hv hr hs hd hcd
theorem gs {i : Str} {t : Tok} (hm : X.mg x = some (.str i t)) (hg : Gl X x := by rfl) (hd : (x == ("__debug__" : Str)) = false := by decide) : SE X a0 (.Name x pos) (cst (.str i)) := se_gstr hg hm hd
theorem gi {i : Int} {t : Tok} (hm : X.mg x = some (.int i t)) (hg : Gl X x := by rfl) (hd : (x == ("__debug__" : Str)) = false := by decide) : SE X a0 (.Name x pos) (cst (.int i)) := se_gint hg hm hd
/-! the chain as a value -/
variable {op op' : CmpOp} {g1 g2 : G2} {ea eb ec : Expr} {fa fb fc : Fn}
theorem se_chain (ho : OpR X (compareOp op) (rP2 X.K g1)) (ho' : OpR X (compareOp op') (rP2 X.K g2)) (ha : SE X a0 ea fa) (hb : SE X a0 eb fb) (hc : SE X a0 ec fc) (hm : lastMarks [op, op'] [eb, ec] = false := by with_unfolding_all rfl) :
    SE X a0 (.Compare ea [op, op'] [eb, ec] pos) (ofB (chF g1 g2 fa fb fc)) := by
  refine ⟨PEimp (pe_chain ho ho' ha.run hb.run hc.run hm) fun σ H Q ⟨F, env, R, d, env', q, k⟩ => ?_⟩
  obtain ⟨⟨b, env1⟩, q1, q⟩ := Option.bind_eq_some_iff.mp q
  cases q
  exact ch_core ⟨F, env, R, b, _, q1, fun F' H' S R' => k _ F' H' S R' (.bl b)⟩
end
theorem boot_abs : bootBuiltins "abs" = some (.builtin "abs") := by decide +kernel
theorem boot_max : bootBuiltins "max" = some (.builtin "max") := by decide +kernel
theorem boot_min : bootBuiltins "min" = some (.builtin "min") := by decide +kernel
theorem boot_int : bootBuiltins "int" = some (.type "int") := by decide +kernel
theorem boot_divmod : bootBuiltins "divmod" = some (.builtin "divmod") := by decide +kernel
theorem boot_all : bootBuiltins "all" = some (.builtin "all") := by decide +kernel
theorem boot_any : bootBuiltins "any" = some (.builtin "any") := by decide +kernel
theorem boot_tuple : bootBuiltins "tuple" = some (.type "tuple") := by decide +kernel
theorem boot_list : bootBuiltins "list" = some (.type "list") := by decide +kernel
theorem boot_str : bootBuiltins "str" = some (.type "str") := by decide +kernel
theorem boot_bool : bootBuiltins "bool" = some (.type "bool") := by decide +kernel
theorem boot_dict : bootBuiltins "dict" = some (.type "dict") := by decide +kernel
theorem boot_repr : bootBuiltins "repr" = some (.builtin "repr") := by decide +kernel
end Ew

/-! EwOwn: comprehensions over a list that a name still owns. -/
namespace Ew
open PySem L2

def lkL (env : En) (k n : Nat) : Option (List D) := (look env k).bind fun d => match d with
  | .list l => if l.length = n then some l else none
  | _ => none
def lcOL (k n : Nat) (g : Fg) (t : Fb) (e : Fn) (vs : List Nat) : Nat → En → Option (List D × En)
  | 0, env => (lkL env k n).map fun _ => ([], env)
  | m + 1, env => (lkL env k n).bind fun l => (l[n - (m + 1)]?).bind fun d => (g d env).bind fun e1 => (t e1).bind fun b =>
      if b.1 = true then (e b.2).bind fun x => (lcOL k n g t e vs m (wipeE x.2 vs)).bind fun y => some (x.1 :: y.1, y.2) else lcOL k n g t e vs m (wipeE b.2 vs)
def lcO (k : Nat) (g : Fg) (t : Fb) (e : Fn) (vs : List Nat) : Fn := fun env => (look env k).bind fun d => match d with
  | .list ds => if ds.length ≤ 1000000 ∧ okV env vs = true ∧ k ∉ vs then (lcOL k ds.length g t e vs ds.length (wipeE env vs)).bind fun y => some (.list y.1, restE env y.2 vs) else none
  | _ => none
section
variable {K : PySem.W.Frag} {a0 : Addr} {F : Addr → Prop} {H : Hp} {σ : St} {env : En}
theorem lkL_at {k n : Nat} {l : List D} (R : Rel K a0 F H σ env) (h : lkL env k n = some l) : l.length = n ∧ ∃ p xs, σ[k]? = some (some (.ref p)) ∧ SqL K H p xs ∧ FzAll K F H xs l := by
  unfold lkL at h
  obtain ⟨d, h1, h2⟩ := Option.bind_eq_some_iff.mp h
  split at h2
  · rename_i l'
    split at h2
    · cases h2
      obtain ⟨v, e, b⟩ := R.look h1
      obtain ⟨p, xs, rfl, h3, z⟩ := b.list
      exact ⟨by assumption, p, xs, e, h3.sq, z⟩
    · cases h2
  · cases h2
end
theorem lcO_run {K : PySem.W.Frag} {a0 : Addr} {k0 : Nat} {g : Fg} {t : Fb} {e : Fn} {ts vs : List Nat} (hv : ∀ t ∈ ts, t ∈ vs) {σ : St} {H : Hp} {Q : VK} (h : tO K a0 (lcO k0 g t e vs) σ H Q) :
    tLc (iAny K (tVar k0)) (tGd K a0 ts g) (tT K a0 t) (tE K a0 e) vs σ H Q := by
  obtain ⟨F1, env1, R1, d, env', q, k⟩ := h
  obtain ⟨d0, q1, q⟩ := Option.bind_eq_some_iff.mp q
  split at q
  · rename_i ds
    by_cases hc : ds.length ≤ 1000000 ∧ okV env1 vs = true ∧ k0 ∉ vs
    · rw [if_pos hc] at q
      obtain ⟨⟨xs, env2⟩, q2, q⟩ := Option.bind_eq_some_iff.mp q
      cases q
      obtain ⟨v0, hv0, b0⟩ := R1.look q1
      obtain ⟨p, ws, rfl, hws, z0⟩ := b0.list
      refine ⟨.ref p, hv0, .ls p, rfl, ⟨ws, hws.sq⟩, fun Dd hD => ?_⟩
      generalize hn : ds.length = n at q2
      have hk0 : (wipe σ vs)[k0]? = some (some (.ref p)) := by rw [wipe_out hc.2.2]; exact hv0
      have at' : ∀ {Fc Hc envi l}, Rel K a0 Fc Hc (wipe σ vs) envi → lkL envi k0 n = some l → l.length = n ∧ ∃ xs, SqL K Hc p xs ∧ FzAll K Fc Hc xs l := fun R e => by
        obtain ⟨h1, p', xs, h2, h3, h4⟩ := lkL_at R e
        rw [hk0] at h2
        cases h2
        exact ⟨h1, xs, h3, h4⟩
      refine ⟨fun i m Hc => i ≤ n ∧ m = n - i ∧ ∃ Fc envi acc accd ys, Rel K a0 Fc Hc (wipe σ vs) envi ∧ ¬ Fc Dd ∧ ¬ Owned (wipe σ vs) envi Dd ∧ Hc Dd = some (.lst acc) ∧ FzAll K Fc Hc acc accd ∧ acc.length ≤ i ∧
        Stp F1 H σ env1 Fc Hc (wipe σ vs) envi ∧ lcOL k0 n g t e vs (n - i) envi = some (ys, env2) ∧ accd ++ ys = xs, ⟨_, Nat.zero_le _, rfl, F1, wipeE env1 vs, [], [], xs, ?_⟩, ?_⟩
      · have G : Grow F1 H F1 (upd H Dd (.lst [])) := Grow.new1 hD
        exact ⟨G.rel (R1.wiped vs), fun z => R1.fd Dd z hD, fun w => (R1.owned (owned_wipe w)).2.2 hD, upd_same, .nil, Nat.le_refl _, Stp.wiped.trans G.stp, by simpa using q2, rfl⟩
      rintro i m Hc ⟨hi, rfl, Fc, envi, acc, accd, ys, Rc, nf, no, hDd, hacc, hlen, Sc, qc, exs⟩
      by_cases hlt : i < n
      · obtain ⟨m, hm⟩ : ∃ m, n - i = m + 1 := ⟨n - i - 1, by omega⟩
        rw [hm] at qc
        obtain ⟨l, q3, qc⟩ := Option.bind_eq_some_iff.mp qc
        obtain ⟨dd, q3', qc⟩ := Option.bind_eq_some_iff.mp qc
        obtain ⟨env4, q4, qc⟩ := Option.bind_eq_some_iff.mp qc
        obtain ⟨⟨b, env5⟩, q5, qc⟩ := Option.bind_eq_some_iff.mp qc
        obtain ⟨hl, us, hsq, hfz⟩ := at' Rc q3
        rw [show n - (m + 1) = i by omega] at q3'
        obtain ⟨x0, ex, fx⟩ := hfz.get q3'
        refine .inr ⟨⟨us, x0, hsq, ex⟩, fun H' => ∃ m', m' < n - i ∧ (i + 1 ≤ n ∧ m' = n - (i + 1) ∧ ∃ Fc envi acc accd ys, Rel K a0 Fc H' (wipe σ vs) envi ∧ ¬ Fc Dd ∧ ¬ Owned (wipe σ vs) envi Dd ∧ H' Dd = some (.lst acc) ∧ FzAll K Fc H' acc accd ∧ acc.length ≤ i + 1 ∧
          Stp F1 H σ env1 Fc H' (wipe σ vs) envi ∧ lcOL k0 n g t e vs (n - (i + 1)) envi = some (ys, env2) ∧ accd ++ ys = xs), fun H' h => h, fun x H' y => ?_⟩
        have em : n - (i + 1) = m := by omega
        obtain ⟨y1, y2⟩ := y
        subst y1
        have := y2 us hsq
        rw [ex] at this
        cases this
        refine ⟨Fc, envi, Rc, dd, env4, fx, q4, fun σ5 F5 H5 S5 R5 o5 => ⟨wipe_only o5 hv, F5, env4, R5, b, env5, q5, fun F6 H6 S6 R6 => ?_⟩⟩
        have S46 := S5.trans S6
        have keyD : ∀ {F7 : Addr → Prop} {H7 : Hp} {σ7 : St} {env7 : En}, Stp Fc H' (wipe σ vs) envi F7 H7 σ7 env7 → ¬ F7 Dd ∧ ¬ Owned σ7 env7 Dd ∧ H7 Dd = some (.lst acc) := fun {F7 H7 σ7 env7} S => by
          refine ⟨fun z => ?_, fun w => ?_, S.keep _ _ hDd no⟩
          · rcases S.new Dd z with z | z | z
            · exact nf z
            · rw [hDd] at z; cases z
            · exact no z
          · rcases S.own Dd w with w | w
            · exact no w
            · rw [hDd] at w; cases w
        cases b with
        | true =>
          rw [if_pos rfl] at qc
          refine iteT ?_
          obtain ⟨⟨x1, env7⟩, q7, qc⟩ := Option.bind_eq_some_iff.mp qc
          obtain ⟨⟨zs, env8⟩, q8, qc⟩ := Option.bind_eq_some_iff.mp qc
          cases qc
          refine ⟨F6, env5, R6, x1, env7, q7, fun y F7 H7 S7 R7 fy => ?_⟩
          have S47 := S46.trans S7
          obtain ⟨nf7, no7, hD7⟩ := keyD S47
          refine ⟨acc, hD7, by rw [sizeLine_eq]; omega, _, by omega, hlt, rfl, F7, wipeE env7 vs, acc ++ [y], accd ++ [x1], zs, ?_⟩
          have Rw : Rel K a0 F7 H7 (wipe σ vs) (wipeE env7 vs) := by
            have z := R7.wiped vs
            rwa [wipe_only o5 hv] at z
          have now : ¬ Owned (wipe σ vs) (wipeE env7 vs) Dd := fun w => no7 (by
            rw [← wipe_only o5 hv] at w
            exact owned_wipe w)
          have hk : ∀ a u, H7 a = some u → (F7 a ∨ ¬ Mut (some u)) → upd H7 Dd (.lst (acc ++ [y])) a = some u := fun a u e h => by
            by_cases hp : a = Dd
            · subst hp
              rcases h with h | h
              · exact absurd h nf7
              · rw [hD7] at e; cases e; exact absurd trivial h
            · rw [upd_ne hp]; exact e
          refine ⟨Rw.updE nf7 now (by rw [hD7]; trivial), nf7, now, upd_same, ?_, by simp; omega, ?_, by rw [em]; exact q8, by simp [← exs]⟩
          · exact ((S47.fzAll Rc hacc).append (.cons fy .nil)).mono (fun _ h => h) hk
          · have S17 := Sc.trans S47
            refine ⟨S17.sub, S17.new, fun a o e n => ?_, fun a h => ?_, fun a w => S17.own a (by
              rw [← wipe_only o5 hv] at w
              exact owned_wipe w)⟩
            · rw [upd_ne (ne_of_none e hD)]
              exact S17.keep a o e n
            · by_cases hp : a = Dd
              · subst hp; rw [upd_same]; exact fun z => nomatch z
              · rw [upd_ne hp]; exact S17.dom a h
        | false =>
          rw [if_neg Bool.false_ne_true] at qc
          refine iteF ?_
          obtain ⟨nf6, no6, hD6⟩ := keyD S46
          have Rw : Rel K a0 F6 H6 (wipe σ vs) (wipeE env5 vs) := by
            have z := R6.wiped vs
            rwa [wipe_only o5 hv] at z
          have ow : ∀ a, Owned (wipe σ vs) (wipeE env5 vs) a → Owned σ5 env5 a := fun a w => by
            rw [← wipe_only o5 hv] at w
            exact owned_wipe w
          have S16 := Sc.trans S46
          exact ⟨_, by omega, hlt, rfl, F6, wipeE env5 vs, acc, accd, ys, Rw, nf6, fun w => no6 (ow _ w), hD6, S46.fzAll Rc hacc, by omega, ⟨S16.sub, S16.new, S16.keep, S16.dom, fun a w => S16.own a (ow a w)⟩, by rw [em]; exact qc, exs⟩
      · have ei : i = n := by omega
        rw [show n - i = 0 by omega] at qc
        obtain ⟨l, q3, qc⟩ := Option.map_eq_some_iff.mp qc
        obtain ⟨hl, us, hsq, hfz⟩ := at' Rc q3
        cases qc
        rw [List.append_nil] at exs
        subst exs
        obtain ⟨Rr, Sr, Or⟩ := R1.rest hc.2.1 Sc Rc
        exact .inl ⟨⟨us, hsq, by rw [hfz.length]; omega⟩, k Dd Fc Hc Sr Rr hD nf (fun w => no (Or _ w)) (.lst hDd hacc)⟩
    · rw [if_neg hc] at q; cases q
  · cases q
section
variable {X : Cx} {a0 : Addr} {fr : Bool} {g : Fg} {t : Fb} {f : Fn} {elt tg : Expr} {ifs : List Expr} {scope : Scope} {own : List (Str × Nat)} {pos npos : Pos} {ts : List Nat} {x : Str}
theorem so_lcO {k : Nat} (hc : X.calm = true) (hN : X.N.Nodup) (hk : X.N[k]? = some x) (hvis : Vis X.env.scope x) (ok : BlkOk X.N X.env.scope scope own) (hv : ∀ t ∈ ts, t ∈ own.map (·.2))
    (hg : ∀ (s : Shared) (H : Hp) (C : Addr) (cl : List (Str × Addr)) (fp : List Addr), SG (X.blk s H scope (compEnvC scope cl C X.env) fp) a0 ts tg g)
    (ht : ∀ (s : Shared) (H : Hp) (C : Addr) (cl : List (Str × Addr)) (fp : List Addr), STs (X.blk s H scope (compEnvC scope cl C X.env) fp) a0 ifs t)
    (he : ∀ (s : Shared) (H : Hp) (C : Addr) (cl : List (Str × Addr)) (fp : List Addr), SE (X.blk s H scope (compEnvC scope cl C X.env) fp) a0 elt f) (hs : ∀ y, foldedSetIterable (.Name x npos) X.env y = pure y := by intro _; rfl)
    (hd : (x == ("__debug__" : Str)) = false := by decide) (hcd : (x == ("__classdict__" : Str)) = false := by decide) :
    SO X a0 (.ListComp elt [⟨tg, .Name x npos, ifs, 0⟩] scope pos) (lcO k g t f (own.map (·.2))) :=
  ⟨PEimp (pe_lc (te := tE X.K a0 f) (tt := tT X.K a0 t) (g := tGd X.K a0 ts g) hc hN (pi_any (pe_var hk hvis hd hcd)) ok (fun s H C cl fp => (hg s H C cl fp).run) (fun s H C cl fp => (ht s H C cl fp).run) (fun s H C cl fp => (he s H C cl fp).run) hs) fun σ H Q h => lcO_run hv h⟩
end
end Ew

/-! EwMore: isinstance of two types; list(range(..)). -/
namespace Ew
open PySem L2
def isi2F (t u : Ty) (f : Fn) : Fn := fun env => (f env).bind fun x => some (.bool (isA t x.1 || isA u x.1), x.2)
section
variable {X : Cx} {a0 : Addr} {p pos pt pc pc' : Pos} {e : Expr} {f : Fn} {c c' : Str} {kk : Nat}
theorem se_isi2 (t u : Ty) (hg : Gl X "isinstance") (hm : X.mg "isinstance" = none) (hgc : Gl X c) (hmc : X.mg c = none) (hv : bootBuiltins c = some (.type t.nm)) (hgc' : Gl X c') (hmc' : X.mg c' = none) (hv' : bootBuiltins c' = some (.type u.nm)) (he : SE X a0 e f)
    (hn : c ≠ "__name__" := by decide) (hd : (c == ("__debug__" : Str)) = false := by decide) (hn' : c' ≠ "__name__" := by decide) (hd' : (c' == ("__debug__" : Str)) = false := by decide)
    (h1 : starEach [e, .Tuple [.Name c pc, .Name c' pc'] kk pt] X.env = (false, eval e X.env) :: starEach [.Tuple [.Name c pc, .Name c' pc'] kk pt] X.env := by rfl)
    (h2 : starEach [.Tuple [.Name c pc, .Name c' pc'] kk pt] X.env = (false, eval (.Tuple [.Name c pc, .Name c' pc'] kk pt) X.env) :: starEach [] X.env := by rfl)
    (h3 : starEach [.Name c pc, .Name c' pc'] X.env = (false, eval (.Name c pc) X.env) :: starEach [.Name c' pc'] X.env := by rfl)
    (h4 : starEach [.Name c' pc'] X.env = (false, eval (.Name c' pc') X.env) :: starEach [] X.env := by rfl)
    (hpl : (backTo pos (starEach [.Tuple [.Name c pc, .Name c' pc'] kk pt] X.env)).any (·.1) = false := by rfl) : SE X a0 (.Call (.Name "isinstance" p) [e, .Tuple [.Name c pc, .Name c' pc'] kk pt] [] pos) (isi2F t u f) := by
  refine ⟨PEimp (pe_callB call_isiT hg hm (by decide +kernel) (pa_cons he.run (pa_cons (pe_tup (pa_cons (pe_bltn (v := .ty t.nm) hgc hmc hv rfl hn hd) (pa_cons (pe_bltn (v := .ty u.nm) hgc' hmc' hv' rfl hn' hd') pa_nil h4) h3)) pa_nil h2) h1) (by decide) (by decide) h1 hpl) fun σ H Q ⟨F, env, R, d, env', q, k⟩ => ?_⟩
  obtain ⟨⟨d1, env1⟩, q1, q⟩ := Option.bind_eq_some_iff.mp q
  cases q
  refine ⟨F, env, R, d1, env1, q1, fun v F' H' S R' z => ⟨len1000 (by simp), fun p hp => ?_⟩⟩
  have G : Grow F' H' F' (upd H' p (.tup [.ty t.nm, .ty u.nm])) := Grow.new1 hp
  refine ⟨v, p, [.ty t.nm, .ty u.nm], .type (tyD d1), [.type t.nm, .type u.nm], isA t d1 || isA u d1, rfl, upd_same, .cons (.ty _) (.cons (.ty _) .nil), Br.ty (.inl (G.fz z)), ?_, k _ F' _ (S.trans G.stp) (G.rel R') (.bl _)⟩
  refine kitAny_cons (kit_ty (isA_kit t d1)) (fun h => ?_) (fun h => by rw [h]; rfl)
  rw [h, Bool.false_or]
  refine kitAny_cons (kit_ty (isA_kit u d1)) (fun h => ?_) (fun h => h)
  rw [h]; exact kitAny_nil
/-! list(range(..)) -/
theorem fz_rg {K : PySem.W.Frag} {F : Addr → Prop} {H : Hp} (a : Int) : ∀ l : List Nat, FzAll K F H (l.map fun i => V.int (a + (i : Nat))) (l.map fun i => PyData.int (a + (i : Nat)))
  | [] => .nil
  | i :: l => .cons (.int _) (fz_rg a l)
def okG (a b : Int) : Bool := okR a && okR b && decide ((b - a).toNat ≤ 1000000)
theorem okG_rg {a b : Int} (h : okG a b = true) : RgOk a b := by
  unfold okG okR at h
  rw [Bool.and_eq_true, Bool.and_eq_true, decide_eq_true_eq, decide_eq_true_eq, decide_eq_true_eq] at h
  exact ⟨h.1.1.1, h.1.1.2, h.1.2.1, h.1.2.2, by omega⟩
def lrF1 (f : Fn) : Fn := fun env => (f env).bind fun x => match x.1 with
  | .int n => if okG 0 n = true then some (.list (rngL 0 n.toNat), x.2) else none
  | _ => none
def lrF2 (f g : Fn) : Fn := fun env => (f env).bind fun x => (g x.2).bind fun y => match x.1, y.1 with
  | .int a, .int b => if okG a b = true then some (.list (rngL a (b - a).toNat), y.2) else none
  | _, _ => none
variable {e2 : Expr} {g : Fn} {p2 pos2 : Pos}
theorem so_lr1 (hc : X.calm = true) (hg : Gl X "list") (hm : X.mg "list" = none) (hg' : Gl X "range") (hm' : X.mg "range" = none) (he : SE X a0 e f) (na : starEach [e] X.env = (false, eval e X.env) :: starEach [] X.env := by rfl)
    (nb : starEach [.Call (.Name "range" p2) [e] [] pos2] X.env = (false, eval (.Call (.Name "range" p2) [e] [] pos2) X.env) :: starEach [] X.env := by rfl) : SO X a0 (.Call (.Name "list" p) [.Call (.Name "range" p2) [e] [] pos2] [] pos) (lrF1 f) := by
  refine ⟨PEimp (pe_listRg hc hg hm (prg_1 hg' hm' he.run na) nb) fun σ H Q ⟨F, env, R, d, env', q, k⟩ => ?_⟩
  obtain ⟨⟨d1, env1⟩, q1, q⟩ := Option.bind_eq_some_iff.mp q
  cases d1 with
  | int n =>
    by_cases h : okG 0 n = true
    · simp only [h, if_true] at q
      cases q
      refine ⟨F, env, R, _, env', q1, fun v F1 H1 S1 R1 z => ⟨n, (Br.int (.inl z)), okG_rg h, fun q hq => ?_⟩⟩
      have G : Grow F1 H1 F1 (upd H1 q (.lst (rgV 0 n))) := Grow.new1 hq
      refine k q F1 _ (S1.trans G.stp) (G.rel R1) (S1.new_of hq) (fun z => R1.fd q z hq) (fun w => (R1.owned w).2.2 hq) (.lst upd_same ?_)
      have := fz_rg (K := X.K) (F := F1) (H := upd H1 q (.lst (rgV 0 n))) 0 (List.range (n - 0).toNat)
      rw [Int.sub_zero] at this
      unfold rgV rngL
      rw [Int.sub_zero]
      rw [show rgV 0 n = (List.range n.toNat).map fun i => V.int (0 + (i : Nat)) by unfold rgV; rw [Int.sub_zero]] at this
      exact this
    · simp only [h, if_false] at q
      cases q
  | none => cases q
  | bool _ => cases q
  | str _ => cases q
  | list _ => cases q
  | tuple _ => cases q
  | dict _ => cases q
theorem so_lr2 (hc : X.calm = true) (hg : Gl X "list") (hm : X.mg "list" = none) (hg' : Gl X "range") (hm' : X.mg "range" = none) (he : SE X a0 e f) (he2 : SE X a0 e2 g) (na : starEach [e, e2] X.env = (false, eval e X.env) :: starEach [e2] X.env := by rfl) (na2 : starEach [e2] X.env = (false, eval e2 X.env) :: starEach [] X.env := by rfl)
    (hpl : (backTo pos2 (starEach [e2] X.env)).any (·.1) = false := by rfl)
    (nb : starEach [.Call (.Name "range" p2) [e, e2] [] pos2] X.env = (false, eval (.Call (.Name "range" p2) [e, e2] [] pos2) X.env) :: starEach [] X.env := by rfl) : SO X a0 (.Call (.Name "list" p) [.Call (.Name "range" p2) [e, e2] [] pos2] [] pos) (lrF2 f g) := by
  refine ⟨PEimp (pe_listRg hc hg hm (prg_2 hg' hm' he.run he2.run na na2 hpl) nb) fun σ H Q ⟨F, env, R, d, env', q, k⟩ => ?_⟩
  obtain ⟨⟨d1, env1⟩, q1, q⟩ := Option.bind_eq_some_iff.mp q
  obtain ⟨⟨d2, env2⟩, q2, q⟩ := Option.bind_eq_some_iff.mp q
  match d1, d2, q1, q2, q with
  | .int a, .int b, q1, q2, q =>
    by_cases h : okG a b = true
    · simp only [h, if_true] at q
      cases q
      refine ⟨F, env, R, _, env1, q1, fun v F1 H1 S1 R1 z => ⟨F1, env1, R1, _, _, q2, fun v2 F2 H2 S2 R2 z2 => ⟨a, b, Br.int (.inl z), Br.int (.inl z2), okG_rg h, fun q hq => ?_⟩⟩⟩
      have G : Grow F2 H2 F2 (upd H2 q (.lst (rgV a b))) := Grow.new1 hq
      exact k q F2 _ ((S1.trans S2).trans G.stp) (G.rel R2) ((S1.trans S2).new_of hq) (fun z => R2.fd q z hq) (fun w => (R2.owned w).2.2 hq) (.lst upd_same (fz_rg a _))
    · simp only [h, if_false] at q
      cases q
end
end Ew

/-! EwRev: x[::-1] of texts and lists. -/
namespace Ew
open PySem L2 PySem.Spec PyProof.Rows PySem.Builtin PySem.Builtin.Str
def revS (z : Str) : Str := ⟨z.cps.toList.reverse.toArray⟩
theorem pick_rev (z : Str) : (strSliceIndices none none (-1) z.length).filterMap (z.cps[·]?) = z.cps.toList.reverse := by
  rw [picked_rev, filterMap_get, List.map_map]
  · refine List.ext_getElem? fun i => ?_
    rw [List.getElem?_map]
    by_cases h : i < z.cps.toList.length
    · have h' : i < z.length := by simpa [Str.length] using h
      rw [List.getElem?_range h', List.getElem?_reverse h]
      have h2 : z.length - 1 - i < z.cps.size := by show z.cps.size - 1 - i < z.cps.size; have : i < z.cps.size := h'; omega
      have e : z.cps.toList.length = z.length := by simp [Str.length]
      rw [e, List.getElem?_eq_getElem (by simpa using h2)]
      simp [Array.getD, h2]
    · rw [List.getElem?_eq_none (by simpa [Str.length] using h), List.getElem?_eq_none (by simpa using h)]
      rfl
  · intro i hi
    obtain ⟨k, hk, rfl⟩ := List.mem_map.mp hi
    have hk' : k < z.length := List.mem_range.mp hk
    show z.length - 1 - k < z.cps.size
    have : z.length = z.cps.size := rfl
    omega
section
variable {X : Cx}
def tRev (K : PySem.W.Frag) (te : TE) : TE := fun σ H Q => te σ H fun x H1 => (∃ z, x = .str z ∧ z.length ≤ sizeLine ∧ Q (.str (revS z)) H1) ∨ ∃ a xs, x = .ref a ∧ SqL K H1 a xs ∧ ∀ p, H1 p = none → Q (.ref p) (upd H1 p (.lst xs.reverse))
theorem pe_rev {e : Expr} {te : TE} {k : Nat} {p1 p2 p3 pos : Pos} (he : PE X e te) : PE X (.Subscript e (.Slice none none (some (.UnaryOp .USub (.Constant (.int 1) k p1) p2)) p3) pos) (tRev X.K te) := by
  refine ⟨fun pins s σ H Q I h => ?_⟩
  refine Subscript_ (thn (he.run pins s σ H _ I h) fun v s1 ⟨x, H1, I1, r1, q1⟩ => ?_)
  have hst : PO X (some (.UnaryOp .USub (.Constant (.int 1) k p1) p2)) (tPart (tUn (rU fun i => .int (-i)) (tC (.int 1)))) := po_some (pe_un un_neg pe_int)
  refine wpAny_Slice (thn (po_none.run pins s1 σ H1 (fun o H2 => o = none ∧ H2 = H1) I1 ⟨rfl, rfl⟩) fun vl s2 ⟨l, H2, I2, pl, el, e2⟩ => ?_)
  subst el e2
  refine thn (po_none.run pins s2 σ H2 (fun o H3 => o = none ∧ H3 = H2) I2 ⟨rfl, rfl⟩) fun vu s3 ⟨u, H3, I3, pu, eu, e3⟩ => ?_
  subst eu e3
  refine thn (hst.run pins s3 σ H3 (fun o H4 => o = some (-1) ∧ H4 = H3) I3 ⟨1, rfl, -1, rfl, rfl, rfl⟩) fun vs s4 ⟨o, H4, I4, ps, eo, e4⟩ => ?_
  subst eo e4
  have I5 : Inv X pins σ H4 { s4 with heap := s4.heap.push { cls := .type "slice", data := .fields #[vl, vu, vs] } } := I4.kept (t' := s4.toks) fun b ob q => Heap.get?_push_of_some _ q
  rcases q1 with ⟨z, ex, hz, q⟩ | ⟨a, xs, ex, hx, q⟩
  · subst ex
    obtain ⟨t, rfl⟩ := r1
    obtain ⟨l1, rfl, hl1⟩ := IsPart.raw pl
    obtain ⟨u1, rfl, hu1⟩ := IsPart.raw pu
    obtain ⟨w1, rfl, hw1⟩ := IsPart.raw ps
    cases l1 with
    | some _ => cases hl1
    | none =>
    cases u1 with
    | some _ => cases hu1
    | none =>
    cases w1 with
    | none => cases hw1
    | some w =>
    obtain ⟨i, tk⟩ := w
    have hi : i = -1 := (by simpa using hw1.symm : (-1 : Int) = i).symm
    subst hi
    refine tail_any (ops := [.str z t, .ref s4.heap.objs.size]) (typeIs_str _ z t) (F.slot_str_getitem.lookup) ?_ (by with_unfolding_all rfl)
    refine wpAny_getItem_str_slice (l := none) (u := none) (st := some (-1, tk)) ⟨_, Heap.get?_push_size _ rfl, rfl, rfl⟩ rfl ?_
    show Made.post (if ((-1 : Int) == 1 && (strSliceIndices none none (-1) z.length).length == z.length) = true then Made.val (.str z t) else Made.str ⟨((strSliceIndices none none (-1) z.length).filterMap (z.cps[·]?)).toArray⟩) (EP X pins σ Q) _
    rw [if_neg (by simp), pick_rev]
    refine ⟨?_, .str _, _, I5.tok _, ⟨_, rfl⟩, q⟩
    show (z.cps.toList.reverse.toArray).size ≤ sizeLine
    simpa [Str.length] using hz
  · subst ex
    cases r1
    obtain ⟨its, r, ht, hz⟩ := I5.list hx
    have hlen := r.length
    refine tail_any (ops := [.ref a, .ref s4.heap.objs.size]) ht.isList.typeIs (PySem.slot_list_getitem.lookup) ?_ (by with_unfolding_all rfl)
    refine wpAny_getItem_list_slice ht.isList (Heap.IsSliceOf.new _ vl vu vs) pl pu ps (by decide) ?_ (by rw [List.size_toArray]; omega)
    rw [PySem.W.krv_pick]
    refine ⟨.ref _, _, I5.laid (t' := s4.toks) (o := .lst xs.reverse) (fun b ob q => Heap.get?_push_of_some _ q) (Nat.le_refl _) ?_, rfl, q _ (I5.hok.fresh (Nat.le_refl _))⟩
    exact ⟨by rw [List.length_reverse]; exact hz, _, 0, r.reverse, Heap.get?_push_size _ rfl⟩
end
/-! ### as data -/
section
variable {X : Cx} {a0 : Addr} {e : Expr} {f : Fn} {k : Nat} {p1 p2 p3 pos : Pos}
def revD : D → Option D
  | .str z => if z.length ≤ Sz then some (.str (revS z)) else none
  | .list ds => some (.list ds.reverse)
  | _ => none
theorem FzAll.rev {K F H} : ∀ {vs : List V} {ds : List D}, FzAll K F H vs ds → FzAll K F H vs.reverse ds.reverse
  | _, _, .nil => .nil
  | _, _, .cons h t => by
    rw [List.reverse_cons, List.reverse_cons]
    exact (FzAll.rev t).append (.cons h .nil)
theorem se_rev (he : SE X a0 e f) : SE X a0 (.Subscript e (.Slice none none (some (.UnaryOp .USub (.Constant (.int 1) k p1) p2)) p3) pos) (un1 revD f) := by
  refine ⟨PEimp (pe_rev he.run) fun σ H Q ⟨F, env, R, d, env', q, k⟩ => ?_⟩
  obtain ⟨⟨d1, env1⟩, q1, q⟩ := Option.bind_eq_some_iff.mp q
  obtain ⟨d2, q2, q⟩ := Option.map_eq_some_iff.mp q
  cases q
  refine ⟨F, env, R, d1, env1, q1, fun v F1 H1 S1 R1 z => ?_⟩
  have q3 : revD d1 = some d := q2
  match d1, q3, z with
  | .str t, q3, z =>
    have q4 : (if t.length ≤ Sz then some (PyData.str (revS t)) else none) = some d := q3
    by_cases hz : t.length ≤ Sz
    · rw [if_pos hz] at q4
      cases q4
      exact .inl ⟨t, Br.str (.inl z), by rw [sizeLine_eq]; exact hz, k _ F1 H1 S1 R1 (.str _)⟩
    · rw [if_neg hz] at q4; cases q4
  | .list ds, q3, z =>
    cases q3
    obtain ⟨p, xs, rfl, hl, w⟩ := Br.list (.inl z)
    refine .inr ⟨p, xs, rfl, hl.sq, fun q hq => ?_⟩
    have G : Grow F1 H1 (fun a => F1 a ∨ a = q) (upd H1 q (.lst xs.reverse)) := Grow.newF hq
    exact k _ _ _ (S1.trans G.stp) (G.rel R1) (.lst upd_same (.inr rfl) (G.fzAll w.rev))
end
end Ew

/-! EwMeth: more methods of texts. -/
namespace Ew
open PySem L2
section
variable {X : Cx}
def uppG : GM
  | .str a, [] => if a.length ≤ 5592405 then some (.str (Txt.upper a)) else none
  | _, _ => none
theorem m_upper : MtR X "str.upper" (rM X.K uppG) := by
  intro pins s σ H x xs v us Q I rx r ⟨F, dx, ds, d, fd, b, z, q, k⟩
  unfold uppG at q
  split at q
  · rename_i a
    split at q
    · rename_i hz
      cases q
      have ex := b.str
      subst ex
      cases z
      exact mt_upper pins s σ H _ _ v us Q I rx r ⟨a, rfl, rfl, hz, KP.fz k (.str _)⟩
    · cases q
  · cases q
def staG : GM
  | .str a, [.str b] => some (.bool (Txt.startswith a b))
  | _, _ => none
theorem m_starts : MtR X "str.startswith" (rM X.K staG) := by
  intro pins s σ H x xs v us Q I rx r ⟨F, dx, ds, d, fd, b, z, q, k⟩
  unfold staG at q
  split at q
  · rename_i a c
    cases q
    have ex := b.str
    subst ex
    obtain ⟨y, rfl, by_⟩ := one_of z
    have ey := by_.str
    subst ey
    exact mt_startswith pins s σ H _ _ v us Q I rx r ⟨a, c, rfl, rfl, KP.fz k (.bl _)⟩
  · cases q
def couG : GM
  | .str a, [.str b] => some (.int (Txt.count a b))
  | _, _ => none
theorem m_count : MtR X "str.count" (rM X.K couG) := by
  intro pins s σ H x xs v us Q I rx r ⟨F, dx, ds, d, fd, b, z, q, k⟩
  unfold couG at q
  split at q
  · rename_i a c
    cases q
    have ex := b.str
    subst ex
    obtain ⟨y, rfl, by_⟩ := one_of z
    have ey := by_.str
    subst ey
    exact mt_count pins s σ H _ _ v us Q I rx r ⟨a, c, rfl, rfl, KP.fz k (.int _)⟩
  · cases q
def splG : GM
  | .str a, [.str b] => if (b.length == 0) = false ∧ a.length + 2 ≤ Sz then some (.list ((Txt.split a b).map PyData.str)) else none
  | _, _ => none
theorem fz_strs {K : PySem.W.Frag} {F : Addr → Prop} {H : Hp} : ∀ l : List Str, FzAll K F H (l.map V.str) (l.map PyData.str)
  | [] => .nil
  | x :: l => .cons (.str x) (fz_strs l)
theorem m_split : MtR X "str.split" (rMO X.K splG) := by
  intro pins s σ H x xs v us Q I rx r ⟨F, dx, ds, d, fd, b, z, q, k⟩
  unfold splG at q
  split at q
  · rename_i a c
    split at q
    · rename_i hz
      cases q
      have ex := b.str
      subst ex
      obtain ⟨y, rfl, by_⟩ := one_of z
      have ey := by_.str
      subst ey
      exact mt_split pins s σ H _ _ v us Q I rx r ⟨a, c, rfl, rfl, hz.1, by rw [sizeLine_eq]; exact hz.2, fun p hp => KO.lst fd k (fz_strs _) hp⟩
    · cases q
  · cases q
end
end Ew

namespace Ew
open PySem L2
theorem fz_ints {K : PySem.W.Frag} {F : Addr → Prop} {H : Hp} : ∀ ns : List Int, FzAll K F H (ns.map V.int) (ns.map PyData.int)
  | [] => .nil
  | n :: ns => .cons (.int n) (fz_ints ns)
end Ew

/-! EwEmp: {}; methods without arguments; extend; x[::-1] of tuples too. -/
namespace Ew
open PySem L2
def emD : Fn := fun env => some (.dict [], env)
section
variable {X : Cx} {a0 : Addr} {id T : String} {pos : Pos}
theorem so_emp : SO X a0 (.Dict [] [] pos) emD := by
  refine ⟨PEimp pe_dnewK fun σ H Q ⟨F, env, R, d, env', q, k⟩ => ?_⟩
  cases q
  intro p hp
  have G : Grow F H F (upd H p (.dK [])) := Grow.new1 hp
  exact k p F _ G.stp (G.rel R) hp (fun z => R.fd p z hp) (fun w => (R.owned w).2.2 hp) (.dic upd_same .nil)
variable {o : Expr} {name : Str} {apos cpos : Pos} {fo : Fn} {g : GM} {ok : D → Bool}
theorem se_met0 (pa : PlainAttrs T) (slot : Slot T name id) (hty : typeOf (.builtin id) = pure (.type "method_descriptor")) (hm : MtR X id (rM X.K g)) (ty : ∀ {F H v d}, ok d = true → Br X.K F H v d → tyV X.K T v H) (ho : SE X a0 o fo)
    (hbase : attributeBase o name X.env (eval o X.env) = eval o X.env := by rfl) (hline : (apos.endLine == cpos.line) = true := by rfl) : SE X a0 (.Call (.Attribute o name apos) [] [] cpos) (metF ok g fo nilA) := by
  refine ⟨PEimp (pe_bm0 pa slot hty hm ho.run hbase hline) fun σ H Q ⟨F, env, R, d, env', q, k⟩ => ?_⟩
  obtain ⟨dx, env1, ds, q1, q2, q3, q4⟩ := metF_inv q
  cases q3
  refine ⟨F, env, R, dx, _, q1, fun v F1 H1 S1 R1 z => ⟨ty q2 (.inl z), ?_⟩⟩
  exact ⟨F1, dx, [], d, R1.fd, .inl z, .nil, q4, fun y F' H' G fy => k y F' H' (S1.trans G.stp) (G.rel R1) fy⟩
/-! extend by any list that is frozen -/
theorem m_extend : MtR X "list.extend" (rU' X.K extG) := by
  intro pins s σ H x xs v us Q I rx r hh
  obtain ⟨F, a, d0, ds, d, d1, rfl, b, nf, z, fd, q, k⟩ := hh
  unfold extG at q
  split at q
  · rename_i l0 es
    split at q
    · rename_i hz
      cases q
      cases b with
      | @lst xs0 _ h w =>
        cases z with
        | cons z z' =>
          cases z'
          obtain ⟨p, zs, rfl, hp, fz⟩ := (show Br X.K F H _ (.list es) from .inl z).list
          have hm : Mut (H a) := by rw [h]; trivial
          cases rx
          obtain ⟨u, rfl, ru⟩ := r.one
          cases ru
          obtain ⟨hs1, as, n, ra, hl, ea⟩ := I.lstM h
          obtain ⟨bs, n2, rb, eb, hs2⟩ := lsAt_get I hp
          have la := w.length
          have lb := fz.length
          have lb2 := rb.length
          have hSz := sizeLine_eq
          have tot : as.toArray.size + bs.toArray.size ≤ sizeLine := by
            rw [List.size_toArray, List.size_toArray, ← hl, ← lb2, la, lb, hSz]; exact hz
          have ok1 : ¬ (!as.toArray.isEmpty && Builtin.List.listTooLong (as.toArray.size + bs.toArray.size)) = true := by
            rw [notLongL tot, Bool.and_false]; exact Bool.false_ne_true
          refine call_meets PySem.F.slot_list_extend ⟨_, ea, rfl⟩ PySem.F.entry_list_extend (PySem.F.args_list_extend_2 _ _)
            (AutoSeq1.list_extend_list_list_0 a as.toArray n p bs.toArray n2 ok1 (Nat.le_trans (Nat.le_add_right _ _) tot) (Nat.le_succ_of_le tot)) ⟨ea, eb, ?_⟩
          have hlen : (xs0 ++ zs).length ≤ sizeLine := by rw [List.length_append, la, lb, hSz]; exact hz
          exact ⟨.non, _, I.lset (its' := as ++ bs) h ea (by simp) (ra.append rb) hlen, rfl, k _ F _ GrowM.of_upd (.lst upd_same (fz_upd nf hm (w.append fz))) nf .non⟩
    · cases q
  · cases q
end
/-! t[::-1] of tuples -/
section
open PySem.Spec PyProof.Rows HT
variable {prog : Program} {w : World} {A : Around} {E : Value → Shared → Prop} {s : Shared}
theorem places_back (n : Nat) : Builtin.Slice.slicePlaces ((n : Int) - 1) (-1) (-1) = n := by
  unfold Builtin.Slice.slicePlaces
  rw [if_neg (by decide)]
  by_cases h : n = 0
  · subst h; decide
  · rw [if_pos (by omega)]
    have : ((n : Int) - 1 - -1 - 1) / - -1 + 1 = n := by
      rw [show (- -1 : Int) = 1 by decide, Int.ediv_one]; omega
    rw [this]; omega
theorem applied_back {sl : Addr} {n : Nat} {u : Tok} {Q : Int × Int × Nat → Shared → Prop} (hs : s.heap.IsSliceOf sl .none .none (.int (-1) u)) (h : Q ((n : Int) - 1, -1, n) s) :
    wpAny (model prog w) A (Builtin.Slice.sliceApplied (.ref sl) (pure (n : Int))) Q E s := by
  obtain ⟨ob, e1, _, e3⟩ := hs
  unfold Builtin.Slice.sliceApplied Builtin.Slice.sliceFields
  refine wpAny_bind (wpAny_bind (wpAny_field e1 e3 (x := .none) rfl (wpAny_bind (wpAny_field e1 e3 (x := .none) rfl (wpAny_bind (wpAny_field e1 e3 (x := .int (-1) u) rfl (wpAny_pure ?_)))))))
  refine wpAny_bind (slicePart_int ?_)
  show wpAny _ _ (if ((-1 : Int) == 0) = true then _ else _) _ _ s
  rw [if_neg (by decide)]
  refine wpAny_bind (slicePart_none (wpAny_bind (slicePart_none (wpAny_bind (wpAny_pure ?_)))))
  have e : Builtin.Slice.sliceAdjust none none (-1) (n : Int) = ((n : Int) - 1, -1) := by
    unfold Builtin.Slice.sliceAdjust
    simp
  show wpAny _ _ (match Builtin.Slice.sliceAdjust none none (-1) (n : Int) with | (lo, hi) => pure (lo, (-1 : Int), Builtin.Slice.slicePlaces lo hi (-1))) _ _ s
  rw [e]
  show wpAny _ _ (pure ((n : Int) - 1, (-1 : Int), Builtin.Slice.slicePlaces ((n : Int) - 1) (-1) (-1))) _ _ s
  rw [places_back]
  exact wpAny_pure h
theorem pick_back (xs : Array Value) : ((List.range xs.size).filterMap fun (k : Nat) => xs[(((xs.size : Int) - 1) + (k : Int) * (-1)).toNat]?).toArray = xs.toList.reverse.toArray := by
  congr 1
  refine List.ext_getElem? fun i => ?_
  have e : ((List.range xs.size).filterMap fun (k : Nat) => xs[(((xs.size : Int) - 1) + (k : Int) * (-1)).toNat]?) = (List.range xs.size).map fun k => (xs[xs.size - 1 - k]?).getD .none := by
    have key : ∀ l : List Nat, (∀ k ∈ l, k < xs.size) → (l.filterMap fun (k : Nat) => xs[(((xs.size : Int) - 1) + (k : Int) * (-1)).toNat]?) = l.map fun k => (xs[xs.size - 1 - k]?).getD .none := fun l => by
      induction l with
      | nil => intro _; rfl
      | cons k l ih =>
        intro hl
        have hk := hl k (List.mem_cons_self ..)
        have e1 : (((xs.size : Int) - 1) + (k : Int) * (-1)).toNat = xs.size - 1 - k := by omega
        have e2 : xs[xs.size - 1 - k]? = some (xs[xs.size - 1 - k]'(by omega)) := Array.getElem?_eq_getElem (by omega)
        rw [List.filterMap_cons, List.map_cons, e1, e2, ih fun j m => hl j (List.mem_cons_of_mem _ m)]
        rfl
    exact key _ fun k m => List.mem_range.mp m
  rw [e, List.getElem?_map]
  by_cases h : i < xs.size
  · rw [List.getElem?_range h, List.getElem?_reverse (by simpa using h)]
    simp only [Option.map_some, Array.length_toList, Array.getElem?_toList]
    rw [Array.getElem?_eq_getElem (by omega)]
    rfl
  · rw [List.getElem?_eq_none (by simpa using h), List.getElem?_eq_none (by simpa using h)]
    rfl
theorem getItem_tuple_back {t sl : Addr} {items : Array Value} {u : Tok} {Q : Value → Shared → Prop} (ht : IsTup s.heap t items) (hs : s.heap.IsSliceOf sl .none .none (.int (-1) u)) (hz : items.size ≤ sizeLine)
    (h : Q (.ref s.heap.objs.size) { s with heap := s.heap.push { cls := .type "tuple", data := .seq items.toList.reverse.toArray } }) : wpAny (model prog w) A (getItem (.ref t) (.ref sl)) Q E s := by
  have fits : sizeOk (.seq items.toList.reverse.toArray) := by
    show items.toList.reverse.toArray.size ≤ sizeLine
    rw [List.size_toArray, List.length_reverse, Array.length_toList]; exact hz
  have tys : s.TypeIs (.ref sl) "slice" := by
    obtain ⟨ob, e1, e2, _⟩ := hs
    exact ⟨ob, e1, e2⟩
  unfold getItem
  try with_reducible refine wpAny_holding ?_
  first | refine wpAny_bind (wpAny_pure ?_) | skip
  refine wpAny_bind (wpAny_sequenceKey ht.typeIs (by decide) ?_)
  refine wpAny_bind (wpAny_callSpecial?_slot (name := Str.ofString "__getitem__") ht.typeIs slot_tuple_getitem (wpAny_call_entry slot_tuple_getitem ht.typeIs entry_tuple_getitem ?_ (args_tuple_getitem _ _)))
  show wpAny _ _ (Builtin.Tuple.tupleItemsOf (.ref t) >>= _) _ _ s
  refine wpAny_bind (tupleItemsOf_ ht ?_)
  refine wpAny_bind (wpAny_typeOf tys ?_)
  rw [if_pos (by decide)]
  refine wpAny_bind (applied_back hs ?_)
  show wpAny _ _ (if (((items.size : Int) - 1) == 0 && (-1 : Int) == 1 && items.size == items.size) = true then _ else _) _ _ s
  rw [if_neg (by simp), pick_back items]
  first
    | exact wpAny_bind (m := Builtin.Tuple.tupleExact _) (wpAny_newObj_type (wpAny_pure ⟨_, rfl, wpAny_pure h⟩) fits)
    | exact wpAny_bind (m := Builtin.Tuple.tupleExact _) (wpAny_newObj_type (wpAny_bind (wpAny_pure (wpAny_pure ⟨_, rfl, wpAny_pure h⟩))) fits)
    | exact wpAny_bind (wpAny_bind (m := Builtin.Tuple.tupleExact _) (wpAny_newObj_type (wpAny_pure (wpAny_pure ⟨_, rfl, wpAny_pure h⟩)) fits))
    | exact wpAny_bind (wpAny_bind (m := Builtin.Tuple.tupleExact _) (wpAny_newObj_type (wpAny_pure ⟨_, rfl, wpAny_pure h⟩) fits))
end
section
open PySem.Spec PyProof.Rows PySem.Builtin PySem.Builtin.Str
variable {X : Cx}
def tRv (K : PySem.W.Frag) (te : TE) : TE := fun σ H Q => te σ H fun x H1 => (∃ z, x = .str z ∧ z.length ≤ sizeLine ∧ Q (.str (revS z)) H1) ∨ (∃ a xs, x = .ref a ∧ SqL K H1 a xs ∧ ∀ p, H1 p = none → Q (.ref p) (upd H1 p (.lst xs.reverse))) ∨
  ∃ a xs, x = .ref a ∧ SqT K H1 a xs ∧ ∀ p, H1 p = none → Q (.ref p) (upd H1 p (.tup xs.reverse))
theorem pe_rv {e : Expr} {te : TE} {k : Nat} {p1 p2 p3 pos : Pos} (he : PE X e te) : PE X (.Subscript e (.Slice none none (some (.UnaryOp .USub (.Constant (.int 1) k p1) p2)) p3) pos) (tRv X.K te) := by
  refine ⟨fun pins s σ H Q I h => ?_⟩
  refine Subscript_ (thn (he.run pins s σ H _ I h) fun v s1 ⟨x, H1, I1, r1, q1⟩ => ?_)
  have hst : PO X (some (.UnaryOp .USub (.Constant (.int 1) k p1) p2)) (tPart (tUn (rU fun i => .int (-i)) (tC (.int 1)))) := po_some (pe_un un_neg pe_int)
  refine wpAny_Slice (thn (po_none.run pins s1 σ H1 (fun o H2 => o = none ∧ H2 = H1) I1 ⟨rfl, rfl⟩) fun vl s2 ⟨l, H2, I2, pl, el, e2⟩ => ?_)
  subst el e2
  refine thn (po_none.run pins s2 σ H2 (fun o H3 => o = none ∧ H3 = H2) I2 ⟨rfl, rfl⟩) fun vu s3 ⟨u, H3, I3, pu, eu, e3⟩ => ?_
  subst eu e3
  refine thn (hst.run pins s3 σ H3 (fun o H4 => o = some (-1) ∧ H4 = H3) I3 ⟨1, rfl, -1, rfl, rfl, rfl⟩) fun vs s4 ⟨o, H4, I4, ps, eo, e4⟩ => ?_
  subst eo e4
  have I5 : Inv X pins σ H4 { s4 with heap := s4.heap.push { cls := .type "slice", data := .fields #[vl, vu, vs] } } := I4.kept (t' := s4.toks) fun b ob q => Heap.get?_push_of_some _ q
  obtain ⟨l1, rfl, hl1⟩ := IsPart.raw pl
  obtain ⟨u1, rfl, hu1⟩ := IsPart.raw pu
  obtain ⟨w1, rfl, hw1⟩ := IsPart.raw ps
  cases l1 with
  | some _ => cases hl1
  | none =>
  cases u1 with
  | some _ => cases hu1
  | none =>
  cases w1 with
  | none => cases hw1
  | some w =>
  obtain ⟨i, tk⟩ := w
  have hi : i = -1 := (by simpa using hw1.symm : (-1 : Int) = i).symm
  subst hi
  rcases q1 with ⟨z, ex, hz, q⟩ | ⟨a, xs, ex, hx, q⟩ | ⟨a, xs, ex, hx, q⟩
  · subst ex
    obtain ⟨t, rfl⟩ := r1
    refine tail_any (ops := [.str z t, .ref s4.heap.objs.size]) (typeIs_str _ z t) (F.slot_str_getitem.lookup) ?_ (by with_unfolding_all rfl)
    refine wpAny_getItem_str_slice (l := none) (u := none) (st := some (-1, tk)) ⟨_, Heap.get?_push_size _ rfl, rfl, rfl⟩ rfl ?_
    show Made.post (if ((-1 : Int) == 1 && (strSliceIndices none none (-1) z.length).length == z.length) = true then Made.val (.str z t) else Made.str ⟨((strSliceIndices none none (-1) z.length).filterMap (z.cps[·]?)).toArray⟩) (EP X pins σ Q) _
    rw [if_neg (by simp), pick_rev]
    refine ⟨?_, .str _, _, I5.tok _, ⟨_, rfl⟩, q⟩
    show (z.cps.toList.reverse.toArray).size ≤ sizeLine
    simpa [Str.length] using hz
  · subst ex
    cases r1
    obtain ⟨its, r, ht, hz⟩ := I5.list hx
    have hlen := r.length
    refine tail_any (ops := [.ref a, .ref s4.heap.objs.size]) ht.isList.typeIs (PySem.slot_list_getitem.lookup) ?_ (by with_unfolding_all rfl)
    refine wpAny_getItem_list_slice ht.isList (Heap.IsSliceOf.new _ _ _ _) pl pu ps (by decide) ?_ (by rw [List.size_toArray]; omega)
    rw [PySem.W.krv_pick]
    refine ⟨.ref _, _, I5.laid (t' := s4.toks) (o := .lst xs.reverse) (fun b ob q => Heap.get?_push_of_some _ q) (Nat.le_refl _) ?_, rfl, q _ (I5.hok.fresh (Nat.le_refl _))⟩
    exact ⟨by rw [List.length_reverse]; exact hz, _, 0, r.reverse, Heap.get?_push_size _ rfl⟩
  · subst ex
    cases r1
    obtain ⟨its, r, ht, hz⟩ := I5.tuple hx
    have hlen := r.length
    refine tail_any (ops := [.ref a, .ref s4.heap.objs.size]) (ht.typeIs) (PyProof.Rows.slot_tuple_getitem.lookup) ?_ (by with_unfolding_all rfl)
    refine getItem_tuple_back ht (Heap.IsSliceOf.new _ _ _ _) (by rw [List.size_toArray]; omega) ?_
    refine ⟨.ref _, _, I5.laid (t' := s4.toks) (o := .tup xs.reverse) (fun b ob q => Heap.get?_push_of_some _ q) (Nat.le_refl _) ?_, rfl, q _ (I5.hok.fresh (Nat.le_refl _))⟩
    exact ⟨by rw [List.length_reverse]; exact hz, _, r.reverse, _, Heap.get?_push_size _ rfl, rfl, 0, rfl⟩
end
section
variable {X : Cx} {a0 : Addr} {e : Expr} {f : Fn} {k : Nat} {p1 p2 p3 pos : Pos}
def rvD : D → Option D
  | .str z => if z.length ≤ Sz then some (.str (revS z)) else none
  | .list ds => some (.list ds.reverse)
  | .tuple ds => some (.tuple ds.reverse)
  | _ => none
theorem se_rv (he : SE X a0 e f) : SE X a0 (.Subscript e (.Slice none none (some (.UnaryOp .USub (.Constant (.int 1) k p1) p2)) p3) pos) (un1 rvD f) := by
  refine ⟨PEimp (pe_rv he.run) fun σ H Q ⟨F, env, R, d, env', q, k⟩ => ?_⟩
  obtain ⟨⟨d1, env1⟩, q1, q⟩ := Option.bind_eq_some_iff.mp q
  obtain ⟨d2, q2, q⟩ := Option.map_eq_some_iff.mp q
  cases q
  refine ⟨F, env, R, d1, env1, q1, fun v F1 H1 S1 R1 z => ?_⟩
  have q3 : rvD d1 = some d := q2
  match d1, q3, z with
  | .str t, q3, z =>
    have q4 : (if t.length ≤ Sz then some (PyData.str (revS t)) else none) = some d := q3
    by_cases hz : t.length ≤ Sz
    · rw [if_pos hz] at q4
      cases q4
      exact .inl ⟨t, Br.str (.inl z), by rw [sizeLine_eq]; exact hz, k _ F1 H1 S1 R1 (.str _)⟩
    · rw [if_neg hz] at q4; cases q4
  | .list ds, q3, z =>
    cases q3
    obtain ⟨a, xs, rfl, hx, fz⟩ := (show Br X.K F1 H1 v (.list ds) from .inl z).list
    refine .inr (.inl ⟨a, xs, rfl, hx.sq, fun p hp => ?_⟩)
    have G : Grow F1 H1 (fun a => F1 a ∨ a = p) (upd H1 p (.lst xs.reverse)) := Grow.newF hp
    exact k _ _ _ (S1.trans G.stp) (G.rel R1) (.lst upd_same (.inr rfl) (G.fzAll fz.rev))
  | .tuple ds, q3, z =>
    cases q3
    obtain ⟨a, xs, rfl, hx, fz⟩ := (show Br X.K F1 H1 v (.tuple ds) from .inl z).tup
    refine .inr (.inr ⟨a, xs, rfl, hx, fun p hp => ?_⟩)
    have G : Grow F1 H1 F1 (upd H1 p (.tup xs.reverse)) := Grow.new1 hp
    exact k _ F1 _ (S1.trans G.stp) (G.rel R1) (.tup (SqT.of upd_same) (G.fzAll fz.rev))
end
end Ew

/-! EwRep: repr of data with empty dicts in it. -/
namespace Ew
open PySem L2
mutual
def cnE : D → Bool
  | .list xs => cnEs xs
  | .tuple xs => cnEs xs
  | .dict kvs => kvs.isEmpty
  | _ => true
def cnEs : List D → Bool
  | [] => true
  | d :: ds => cnE d && cnEs ds
end
section
variable {X : Cx} {pins : List (Addr × Obj)} {σ : St} {H : Hp} {s : Shared} {F : Addr → Prop}
theorem emp_at (I : Inv X pins σ H s) {a : Addr} (h : H a = some (.dK [])) : (a == sysModules) = false ∧ ∃ o n, s.heap.get? a = some o ∧ o.cls = .type "dict" ∧ o.data = .dict #[] n := by
  obtain ⟨_, ne, vs, kv, dd⟩ := dk_of I.hok h
  cases kv
  obtain ⟨es, ep, ⟨o, e1, e2, e3⟩, e4, _⟩ := dd.raw
  have : es = #[] := Array.eq_empty_of_size_eq_zero (by simpa using e4)
  subst this
  exact ⟨ne, o, ep, e1, e2.1, e3⟩
mutual
theorem rep1 (I : Inv X pins σ H s) : ∀ (d : D) (v : V) (u : Value), Fz X.K F H v d → RelV v u → cnE d = true → d.showable = true → d.shown.length ≤ sizeLine →
    (∃ as, Reads s.heap u d as) ∧ ∃ bs, ReadAtMost s.heap d.depth bs ∧ ReprK X.prog X.w bs s.heap d.depth u d.shown
  | .none, _, _, h, r, _, _, _ => by
    cases h; cases r
    exact ⟨⟨_, .none⟩, [], nofun, by simp only [PyData.shown]; exact .of_is .none _ _ _⟩
  | .bool b, _, _, h, r, _, _, _ => by
    cases h; cases r
    exact ⟨⟨_, .bool b⟩, [], nofun, by simp only [PyData.shown]; exact .of_is (.bool b) _ _ _⟩
  | .int i, _, _, h, r, _, hs, _ => by
    cases h
    obtain ⟨t, rfl⟩ := r
    exact ⟨⟨_, .int i t⟩, [], nofun, by simp only [PyData.shown]; exact .of_is (.int t (by simpa [PyData.showable] using hs)) _ _ _⟩
  | .str x, _, _, h, r, _, _, hz => by
    cases h
    obtain ⟨t, rfl⟩ := r
    exact ⟨⟨_, .str x t⟩, [], nofun, by simp only [PyData.shown]; exact .of_is (.str x t (by simpa only [PyData.shown] using hz)) _ _ _⟩
  | .list ds, v, _, h, r, c, hs, hz => by
    obtain ⟨a, xs, rfl, hx, fz⟩ := (show Br X.K F H v (.list ds) from .inl h).list
    cases r
    obtain ⟨its, n, rv, eg, _⟩ := lsAt_get I hx
    have hz1 : (listText (PyData.shownAll ds)).length ≤ sizeLine := by simpa only [PyData.shown] using hz
    obtain ⟨⟨as, ra⟩, bs, hb, hk⟩ := repA I ds xs its fz rv (by simpa [cnE] using c) (by simpa [PyData.showable] using hs) fun t ht => Nat.le_trans (listText_mem_le ht) hz1
    have rd : Reads s.heap (.ref a) (.list ds) (a :: as) := .list eg rfl rfl ra
    have hna : a ∉ bs := not_mem_of_deeper rd (by simp only [PyData.depth]; omega) hb
    refine ⟨⟨_, rd⟩, a :: bs, .cons rd (by simp only [PyData.depth]; omega) hb, ?_⟩
    simp only [PyData.depth, PyData.shown]
    match its, ds, eg, hk, ra with
    | [], _, eg, hk, ra => cases ra; simp only [PyData.shownAll, listText_nil]; exact .listEmpty eg rfl rfl
    | x :: l, _, eg, hk, _ => exact .list eg rfl rfl hna (by simpa using hk.length_eq) fun i y e => hk.item i y (by simpa using e)
  | .tuple ds, v, _, h, r, c, hs, hz => by
    obtain ⟨a, xs, rfl, hx, fz⟩ := (show Br X.K F H v (.tuple ds) from .inl h).tup
    cases r
    obtain ⟨its, rv, ⟨o, e1, e2, n, e3⟩, _⟩ := I.tuple hx
    have hz1 : (tupleText (PyData.shownAll ds)).length ≤ sizeLine := by simpa only [PyData.shown] using hz
    obtain ⟨⟨as, ra⟩, bs, hb, hk⟩ := repA I ds xs its fz rv (by simpa [cnE] using c) (by simpa [PyData.showable] using hs) fun t ht => Nat.le_trans (tupleText_mem_le ht) hz1
    have rd : Reads s.heap (.ref a) (.tuple ds) as := .tuple e1 e2 e3 ra
    have hna : a ∉ bs := not_mem_of_deeper rd (by simp only [PyData.depth]; omega) hb
    refine ⟨⟨_, rd⟩, a :: bs, .cons rd (by simp only [PyData.depth]; omega) hb, ?_⟩
    simp only [PyData.depth, PyData.shown]
    exact .tuple e1 e2 e3 hna hk
  | .dict [], _, _, h, r, _, _, _ => by
    cases h with
    | dic h f t =>
      cases t
      cases r
      obtain ⟨ne, o, n, e1, e2, e3⟩ := emp_at I h
      have rd : Reads s.heap (.ref _) (.dict []) _ := .dict e1 e2 e3 .nil .nil
      refine ⟨⟨_, rd⟩, [_], .cons (n := 0) rd (Nat.zero_le _) nofun, ?_⟩
      have := ReprK.dict (prog := X.prog) (w := X.w) (as := []) (d := 0) e1 e2 e3 ne List.not_mem_nil .nil
      simp only [PyData.depth, PyData.depthKv, PyData.shown, PyData.shownKv]
      exact this.level_le (by omega)
  | .dict (_ :: _), _, _, _, _, c, _, _ => by cases c
theorem repA (I : Inv X pins σ H s) : ∀ (ds : List D) (vs : List V) (us : List Value), FzAll X.K F H vs ds → Vals vs us → cnEs ds = true → PyData.showableAll ds = true → (∀ t ∈ PyData.shownAll ds, t.length ≤ sizeLine) →
    (∃ as, ReadsAll s.heap us ds as) ∧ ∃ bs, ReadAtMost s.heap (PyData.depthAll ds) bs ∧ ReprAllK X.prog X.w bs s.heap (PyData.depthAll ds) us (PyData.shownAll ds)
  | [], _, _, h, r, _, _, _ => by
    cases h; cases r
    exact ⟨⟨_, .nil⟩, [], nofun, by simp only [PyData.shownAll]; exact .nil⟩
  | d :: ds, _, _, h, r, c, hs, hz => by
    cases h with
    | cons h1 h2 =>
      cases r with
      | cons r1 r2 =>
        have c' : cnE d = true ∧ cnEs ds = true := by simpa [cnEs] using c
        have s' : d.showable = true ∧ PyData.showableAll ds = true := by simpa [PyData.showableAll] using hs
        obtain ⟨⟨as, q1⟩, b1, g1, k1⟩ := rep1 I d _ _ h1 r1 c'.1 s'.1 (hz _ (by simp only [PyData.shownAll]; exact List.mem_cons_self ..))
        obtain ⟨⟨cs, q2⟩, b2, g2, k2⟩ := repA I ds _ _ h2 r2 c'.2 s'.2 fun t ht => hz t (by simp only [PyData.shownAll]; exact List.mem_cons_of_mem _ ht)
        refine ⟨⟨_, .cons q1 q2⟩, b1 ++ b2, ?_, ?_⟩
        · simp only [PyData.depthAll]
          exact (g1.mono (Nat.le_max_left _ _)).append (g2.mono (Nat.le_max_right _ _))
        · simp only [PyData.depthAll, PyData.shownAll]
          exact .cons ((k1.more fun b m => List.mem_append_left _ m).level_le (Nat.le_max_left _ _)) (k2.more_le (fun b m => List.mem_append_right _ m) (Nat.le_max_right _ _))
end
end
def repG : GN
  | [d] => if (cnE d && d.showable && decide (d.depth ≤ 64) && decide (d.shown.length ≤ Sz)) = true then some (.str d.shown) else none
  | _ => none
section
variable {X : Cx}
theorem c_rep (hg : X.A.guards = some []) (hu : X.A.units + 100 < cLine) : CallR X (.builtin "repr") (rC X.K repG) := by
  intro pins s σ H xs us Q I r ⟨F, ds, d, fd, z, q, k⟩
  unfold repG at q
  split at q
  · rename_i a
    split at q
    · rename_i hc
      cases q
      rw [Bool.and_eq_true, Bool.and_eq_true, Bool.and_eq_true] at hc
      obtain ⟨⟨⟨c1, c2⟩, c3⟩, c4⟩ := hc
      have c3' := of_decide_eq_true c3
      have c4' := sz_le (of_decide_eq_true c4)
      obtain ⟨x, rfl, b⟩ := one_of z
      obtain ⟨u, rfl, ru⟩ := vals1 r
      have fin : ∀ (u : Value) (tk : Nat), (∃ t, u = Value.str a.shown t) → EP X pins σ Q u { s with toks := tk } := fun u tk ⟨t, e⟩ => ⟨.str a.shown, H, I.tok tk, ⟨t, e⟩, KP.fz k (.str _)⟩
      have fin' : ∀ (h' : Heap) (t : Tok) (tk : Nat), (∀ b o, s.heap.get? b = some o → h'.get? b = some o) → EP X pins σ Q (.str a.shown t) { s with heap := h', toks := tk } := fun h' t tk hk => ⟨.str _, H, I.kept (t' := tk) hk, ⟨t, rfl⟩, KP.fz k (.str _)⟩
      match a, b, c1, c2, c3', c4', fin, fin', ru with
      | .none, b, _, _, _, _, fin, _, ru => rw [b.non] at ru; cases ru; exact P.repr_of_none (fin _ _ ⟨s.toks, by simp only [PyData.shown]⟩)
      | .bool bb, b, _, _, _, _, fin, _, ru => rw [b.bl] at ru; cases ru; exact P.repr_of_bool (fin _ _ ⟨s.toks, by simp only [PyData.shown]⟩)
      | .int i, b, _, c2, _, _, fin, _, ru =>
        rw [b.int] at ru
        obtain ⟨t, rfl⟩ := ru
        exact P.repr_of_int (by simpa [PyData.showable] using c2) (fin _ _ ⟨s.toks, by simp only [PyData.shown]⟩)
      | .str w, b, _, _, _, c4, fin, _, ru =>
        rw [b.str] at ru
        obtain ⟨t, rfl⟩ := ru
        exact P.repr_of_str (fin _ _ ⟨s.toks, by simp only [PyData.shown]⟩) (by simpa only [PyData.shown] using c4)
      | .list ds, b, c1, c2, c3, c4, _, fin', ru =>
        obtain ⟨a, xs, rfl, hx, fz⟩ := b.list
        cases ru
        obtain ⟨its, n, rv, eg, _⟩ := lsAt_get I hx
        have hz1 : (listText (PyData.shownAll ds)).length ≤ sizeLine := by simpa only [PyData.shown] using c4
        obtain ⟨⟨as, ra⟩, bs, hb, hk⟩ := repA I ds xs its fz rv (by simpa [cnE] using c1) (by simpa [PyData.showable] using c2) fun t ht => Nat.le_trans (listText_mem_le ht) hz1
        have rd : Reads s.heap (.ref a) (.list ds) (a :: as) := .list eg rfl rfl ra
        have hna : a ∉ bs := not_mem_of_deeper rd (by simp only [PyData.depth]; omega) hb
        simp only [PyData.depth] at c3
        refine call_repr_slot (by omega) ⟨_, eg, rfl⟩ PySem.F.slot_list_repr.toG ?_
        match its, ds, eg, hk, ra, fin' with
        | [], _, eg, hk, ra, fin' =>
          cases ra
          simp only [PyData.shown, PyData.shownAll, listText_nil] at fin'
          exact call_list_repr_empty ⟨_, eg, rfl⟩ eg rfl ⟨_, _, rfl, fin' s.heap _ _ fun _ _ e => e⟩
        | x :: l, _, eg, hk, _, fin' =>
          simp only [PyData.shown] at fin'
          exact call_list_reprK eg rfl rfl hna (by simpa using hk.length_eq) (fun i y e => hk.item i y (by simpa using e)) hg (fun b _ => Clear.nil b) (by show X.A.units + 1 + _ < cLine; omega) (fun _ _ e => e) (fun h' t tk e => ⟨_, _, rfl, fin' h' t tk e⟩) hz1
      | .tuple ds, b, c1, c2, c3, c4, _, fin', ru =>
        obtain ⟨a, xs, rfl, hx, fz⟩ := b.tup
        cases ru
        obtain ⟨its, rv, ⟨o, e1, e2, n, e3⟩, _⟩ := I.tuple hx
        have hz1 : (tupleText (PyData.shownAll ds)).length ≤ sizeLine := by simpa only [PyData.shown] using c4
        obtain ⟨⟨as, ra⟩, bs, hb, hk⟩ := repA I ds xs its fz rv (by simpa [cnE] using c1) (by simpa [PyData.showable] using c2) fun t ht => Nat.le_trans (tupleText_mem_le ht) hz1
        have rd : Reads s.heap (.ref a) (.tuple ds) as := .tuple e1 e2 e3 ra
        have hna : a ∉ bs := not_mem_of_deeper rd (by simp only [PyData.depth]; omega) hb
        simp only [PyData.depth] at c3
        simp only [PyData.shown] at fin'
        refine call_repr_slot (by omega) ⟨_, e1, e2⟩ PySem.F.slot_tuple_repr ?_
        exact call_tuple_reprK e1 e2 e3 hna hk hg (fun b _ => Clear.nil b) (by show X.A.units + 1 + _ < cLine; omega) (fun _ _ e => e) (fun h' t tk e => ⟨_, _, rfl, fin' h' t tk e⟩) hz1
      | .dict [], b, _, _, _, _, _, fin', ru =>
        obtain ⟨p, kvs, rfl, hx, fz⟩ := b.dict
        cases fz
        cases ru
        obtain ⟨ne, o, n, e1, e2, e3⟩ := emp_at I hx
        refine call_repr_slot (by omega) ⟨_, e1, e2⟩ PySem.F.slot_dict_repr ?_
        simp only [PyData.shown, PyData.shownKv] at fin'
        exact call_dict_reprK (as := []) (d := 0) (ps := []) e1 e2 e3 ne List.not_mem_nil .nil hg (fun b _ => Clear.nil b) (by show X.A.units + 1 + _ < cLine; omega) (fun _ _ e => e) (fun h' t tk e => ⟨_, _, rfl, fin' h' t tk e⟩) (by rw [sizeLine_eq]; decide +kernel)
      | .dict (_ :: _), _, c1, _, _, _, _, _, _ => cases c1
    · cases q
  · cases q
end
end Ew

/-! EwCal: calls without arguments. -/
namespace Ew
open PySem L2
section
variable {X : Cx} {a0 : Addr} {k : Nat} {f : Addr} {fd : FuncData} {ps : List Str} {x : Str} {p pos : Pos} {G : List D → Option D}
theorem nil_run {σ : St} {H : Hp} {R : List V → Hp → Prop} (h : tAF X.K a0 nilA σ H R) : taOf [] σ H R := by
  obtain ⟨F, env, R', ds, env', e, k⟩ := h
  cases e
  exact k [] F H Stp.refl R' .nil
theorem se_call0 (Fo : FnG X.prog X.w X.K X.mg X.base k f fd ps (spP X.K false 0 G)) (hr : Rm k X.A) (hg : Gl X x) (hm : X.mg x = some (.ref f)) (hk : PySem.W.keepIn X.K (.ref f) = true) (hb : Binds X.K fd ps [])
    (hdb : (x == ("__debug__" : Str)) = false := by decide) : SE X a0 (.Call (.Name x p) [] [] pos) (callP 0 G nilA) :=
  ⟨PEimp (pe_callG0 Fo hr hg hm hk hb hdb) fun σ H Q ⟨F, env, R, d, env', q, kk⟩ => callP_run (g := nilA) (ts := []) (fun σ H R h => nil_run h) R q fun v F1 H1 F2 H2 S1 R1 gr ro => kk v F2 H2 (S1.trans gr.stp) (gr.rel R1) ro⟩
theorem so_call0 (Fo : FnG X.prog X.w X.K X.mg X.base k f fd ps (spP X.K true 0 G)) (hr : Rm k X.A) (hg : Gl X x) (hm : X.mg x = some (.ref f)) (hk : PySem.W.keepIn X.K (.ref f) = true) (hb : Binds X.K fd ps [])
    (hdb : (x == ("__debug__" : Str)) = false := by decide) : SO X a0 (.Call (.Name x p) [] [] pos) (callP 0 G nilA) :=
  ⟨PEimp (pe_callG0 Fo hr hg hm hk hb hdb) fun σ H Q ⟨F, env, R, d, env', q, kk⟩ => callP_run (g := nilA) (ts := []) (fun σ H R h => nil_run h) R q fun v F1 H1 F2 H2 S1 R1 gr ⟨p, e1, e2, e3, e4⟩ => by
    subst e1
    exact kk p F2 H2 (S1.trans gr.stp) (gr.rel R1) (S1.new_of e2) e3 (fun w => (R1.owned w).2.2 e2) e4⟩
end
end Ew

/-! EwIn: in, not in, == over plain data, whatever the texts are. -/
namespace Ew
open PySem L2 PySem.SeqAt
section
variable {K : PySem.W.Frag} {F : Addr → Prop} {H : Hp}
mutual
theorem Fz.dpP : ∀ {d : D} {v : V}, Fz K F H v d → d.plain = true → Dp K H v d
  | .none, _, h, _ => by cases h; exact .non
  | .bool b, _, h, _ => by cases h; exact .bl b
  | .int i, _, h, _ => by cases h; exact .int i
  | .str x, _, h, _ => by cases h; exact .str x
  | .list ds, v, h, c => by
    obtain ⟨p, xs, rfl, hx, z⟩ := (show Br K F H v (.list ds) from .inl h).list
    exact .lst hx.sq (FzAll.dpP z (by simpa [PyData.plain] using c))
  | .tuple ds, v, h, c => by
    obtain ⟨p, xs, rfl, hx, z⟩ := (show Br K F H v (.tuple ds) from .inl h).tup
    exact .tup hx (FzAll.dpP z (by simpa [PyData.plain] using c))
  | .dict _, _, _, c => by simp [PyData.plain] at c
theorem FzAll.dpP : ∀ {ds : List D} {vs : List V}, FzAll K F H vs ds → PyData.plainAll ds = true → DpAll K H vs ds
  | [], _, h, _ => by cases h; exact .nil
  | d :: ds, _, h, c => by
    cases h with
    | cons h1 h2 =>
      have c' : d.plain = true ∧ PyData.plainAll ds = true := by simpa [PyData.plainAll] using c
      exact .cons (Fz.dpP h1 c'.1) (FzAll.dpP h2 c'.2)
end
theorem Br.dpP {d : D} {v : V} (h : Br K F H v d) (c : d.plain = true) : Dp K H v d := by
  cases d with
  | list ds =>
    obtain ⟨p, xs, rfl, hx, z⟩ := h.list
    exact .lst hx.sq (FzAll.dpP z (by simpa [PyData.plain] using c))
  | dict ds => simp [PyData.plain] at c
  | none => rw [h.non]; exact .non
  | bool b => rw [h.bl]; exact .bl b
  | int i => rw [h.int]; exact .int i
  | str x => rw [h.str]; exact .str x
  | tuple ds => exact Fz.dpP h.tupFz c
end
def inP (s : Bool → Bool) : G2
  | x, .list ys => if (x.plain && PyData.plainAll ys && decide (x.depth ≤ 60)) = true then some (.bool (s (ys.any fun z => PyData.eqv z x))) else none
  | x, .tuple ys => if (x.plain && PyData.plainAll ys && decide (x.depth ≤ 60)) = true then some (.bool (s (ys.any fun z => PyData.eqv z x))) else none
  | _, _ => none
section
variable {X : Cx}
theorem o_inP {op : CmpOp} {s : Bool → Bool} (hu : X.A.units + 65 < cLine)
    (h3 : ∀ {sh : Shared} {c x : Value} {xs : List D} {d : D} {as bs : List Addr} {Q : Value → Shared → Prop}, Reads sh.heap c (.list xs) as → Reads sh.heap x d bs → PyData.plainAll xs = true → d.plain = true → X.A.units + 1 + min (PyData.depthAll xs) d.depth < cLine →
      Q (.bool (s (xs.any fun y => PyData.eqv y d))) sh → wpAny (model X.prog X.w) X.A (compareOp op x c) Q X.xe sh)
    (h4 : ∀ {sh : Shared} {c x : Value} {xs : List D} {d : D} {as bs : List Addr} {Q : Value → Shared → Prop}, Reads sh.heap c (.tuple xs) as → Reads sh.heap x d bs → PyData.plainAll xs = true → d.plain = true → X.A.units + 1 + min (PyData.depthAll xs) d.depth < cLine →
      Q (.bool (s (xs.any fun y => PyData.eqv y d))) sh → wpAny (model X.prog X.w) X.A (compareOp op x c) Q X.xe sh) : OpR X (compareOp op) (rP2 X.K (inP s)) := by
  intro pins sh σ H x y v u Q I rx ry ⟨F, da, db, d, fd, hx, hy, q, k⟩
  unfold inP at q
  split at q
  · split at q
    · rename_i ys hc
      cases q
      rw [Bool.and_eq_true, Bool.and_eq_true, decide_eq_true_eq] at hc
      obtain ⟨⟨c1, c2⟩, c3⟩ := hc
      obtain ⟨as, r1⟩ := Dp.reads I _ x v (hx.dpP c1) rx
      obtain ⟨bs, r2⟩ := Dp.reads I _ y u (hy.dpP (by simpa [PyData.plain] using c2)) ry
      exact h3 r2 r1 c2 c1 (by omega) ⟨.bl _, H, I, rfl, KP.fz k (.bl _)⟩
    · cases q
  · split at q
    · rename_i ys hc
      cases q
      rw [Bool.and_eq_true, Bool.and_eq_true, decide_eq_true_eq] at hc
      obtain ⟨⟨c1, c2⟩, c3⟩ := hc
      obtain ⟨as, r1⟩ := Dp.reads I _ x v (hx.dpP c1) rx
      obtain ⟨bs, r2⟩ := Dp.reads I _ y u (hy.dpP (by simpa [PyData.plain] using c2)) ry
      exact h4 r2 r1 c2 c1 (by omega) ⟨.bl _, H, I, rfl, KP.fz k (.bl _)⟩
    · cases q
  · cases q
def inE : G2 := orG inD (inP id)
def niE : G2 := orG niD (inP not)
theorem o_inE (hu : X.A.units + 65 < cLine) : OpR X (compareOp .In) (rP2 X.K inE) := OpR.orP (o_in hu) (o_inP (s := id) hu in_list_data in_tuple_data)
theorem o_niE (hu : X.A.units + 65 < cLine) : OpR X (compareOp .NotIn) (rP2 X.K niE) := OpR.orP (o_notin hu) (o_inP (s := not) hu notIn_list_data notIn_tuple_data)
def eqP (s : Bool → Bool) : G2 := fun x y => if (x.plain && y.plain && decide (x.depth ≤ 60)) = true then some (.bool (s (PyData.eqv x y))) else none
theorem o_eqP (hu : X.A.units + 65 < cLine) : OpR X (compareOp .Eq) (rP2 X.K (eqP id)) := by
  intro pins sh σ H x y v u Q I rx ry ⟨F, da, db, d, fd, hx, hy, q, k⟩
  unfold eqP at q
  split at q
  · rename_i hc
    cases q
    rw [Bool.and_eq_true, Bool.and_eq_true, decide_eq_true_eq] at hc
    obtain ⟨⟨c1, c2⟩, c3⟩ := hc
    obtain ⟨as, r1⟩ := Dp.reads I _ x v (hx.dpP c1) rx
    obtain ⟨bs, r2⟩ := Dp.reads I _ y u (hy.dpP c2) ry
    exact eq_plain r1 r2 c1 c2 (by omega) ⟨.bl _, H, I, rfl, KP.fz k (.bl _)⟩
  · cases q
theorem o_neP (hu : X.A.units + 65 < cLine) : OpR X (compareOp .NotEq) (rP2 X.K (eqP not)) := by
  intro pins sh σ H x y v u Q I rx ry ⟨F, da, db, d, fd, hx, hy, q, k⟩
  unfold eqP at q
  split at q
  · rename_i hc
    cases q
    rw [Bool.and_eq_true, Bool.and_eq_true, decide_eq_true_eq] at hc
    obtain ⟨⟨c1, c2⟩, c3⟩ := hc
    obtain ⟨as, r1⟩ := Dp.reads I _ x v (hx.dpP c1) rx
    obtain ⟨bs, r2⟩ := Dp.reads I _ y u (hy.dpP c2) ry
    exact ne_plain r1 r2 c1 c2 (by omega) ⟨.bl _, H, I, rfl, KP.fz k (.bl _)⟩
  · cases q
def eqE : G2 := orG eqD (eqP id)
def neE : G2 := orG neD (eqP not)
theorem o_eqE (hu : X.A.units + 65 < cLine) : OpR X (compareOp .Eq) (rP2 X.K eqE) := OpR.orP (o_eq (by omega)) (o_eqP hu)
theorem o_neE (hu : X.A.units + 65 < cLine) : OpR X (compareOp .NotEq) (rP2 X.K neE) := OpR.orP (o_ne (by omega)) (o_neP hu)
end
end Ew

/-! EwNst: a block in which a name holds a new list of new lists: made, shown, its lists changed, then let go. -/
namespace Ew
open PySem L2

/-- slot i holds a list of nobody's, some of its items are lists of nobody's; all new since H0 -/
structure Nwf (K : PySem.W.Frag) (H0 : Hp) (F : Addr → Prop) (H : Hp) (σ : St) (env : En) (i : Nat) (ss : List Sl) (L : Addr) (vs : List V) : Prop where
  at' : σ[i]? = some (some (.ref L))
  ls : H L = some (.lst vs)
  nf : ¬ F L
  no : ¬ Owned σ env L
  mx : Mx K F H σ env vs ss
  ne : ∀ (j : Nat) (d : D), ss[j]? = some (.ow d) → vs[j]? ≠ some (.ref L)
  nL : H0 L = none
  nC : ∀ (j : Nat) (d : D) (p : Addr), ss[j]? = some (.ow d) → vs[j]? = some (.ref p) → H0 p = none
section
variable {K : PySem.W.Frag} {a0 : Addr} {F F' : Addr → Prop} {H H' H0 : Hp} {σ : St} {env env' : En} {i : Nat} {ss : List Sl} {L : Addr} {vs : List V}
theorem Mx.step (S : Stp F H σ env F' H' σ env') (R : Rel K a0 F H σ env) : ∀ {vs : List V} {ss : List Sl}, Mx K F H σ env vs ss → Mx K F' H' σ env' vs ss
  | _, _, .nil => .nil
  | _, _, .fz z t => .fz (S.fz R z) (Mx.step S R t)
  | _, _, .ow (p := p) nf no b ne t => by
    have eH : H' p = H p := by
      cases e : H p with
      | none => exact absurd e b.ne
      | some o => exact S.keep p o e no
    refine .ow (fun z => ?_) (fun w => ?_) (b.mono S.sub (S.hk R) eH) ne (Mx.step S R t)
    · rcases S.new p z with z | z | z
      · exact nf z
      · exact b.ne z
      · exact no z
    · rcases S.own p w with w | w
      · exact no w
      · exact b.ne w
theorem Nwf.step (S : Stp F H σ env F' H' σ env') (R : Rel K a0 F H σ env) (N : Nwf K H0 F H σ env i ss L vs) : Nwf K H0 F' H' σ env' i ss L vs := by
  refine ⟨N.at', S.keep _ _ N.ls N.no, fun z => ?_, fun w => ?_, N.mx.step S R, N.ne, N.nL, N.nC⟩
  · rcases S.new L z with z | z | z
    · exact N.nf z
    · rw [N.ls] at z; cases z
    · exact N.no z
  · rcases S.own L w with w | w
    · exact N.no w
    · rw [N.ls] at w; cases w
def slD' : Sl → D
  | .fz d => d
  | .ow d => d
  | .mp d => d
  | .un => .none
/-- its items, if all that is nobody's were frozen -/
theorem Mx.frz : ∀ {vs : List V} {ss : List Sl}, Mx K F H σ env vs ss → ∃ G : Addr → Prop, (∀ a, F a → G a) ∧ (∀ a, G a → F a ∨ H a ≠ none) ∧ FzAll K G H vs (ss.map slD')
  | _, _, .nil => ⟨F, fun _ h => h, fun _ h => .inl h, .nil⟩
  | _, _, .fz z t => by
    obtain ⟨G, g1, g2, g3⟩ := Mx.frz t
    exact ⟨G, g1, g2, .cons (z.mono g1 fun _ _ e _ => e) g3⟩
  | _, _, .ow (p := p) nf no b ne t => by
    obtain ⟨G, g1, g2, g3⟩ := Mx.frz t
    refine ⟨fun a => G a ∨ a = p, fun a h => .inl (g1 a h), fun a h => h.elim (g2 a) fun e => .inr (e ▸ b.ne), .cons ?_ (g3.mono (fun _ h => .inl h) fun _ _ e _ => e)⟩
    exact (b.mono (fun a h => .inl (g1 a h)) (fun _ _ e _ => e) rfl).fz (.inr rfl)
theorem Mx.get : ∀ {vs : List V} {ss : List Sl} {k : Nat} {d : D}, Mx K F H σ env vs ss → ss[k]? = some (.ow d) → ∃ p, vs[k]? = some (.ref p) ∧ ¬ F p ∧ ¬ Owned σ env p ∧ Bd K F H p d
  | _, _, k, d, .nil, e => by simp at e
  | _, _, 0, d, .fz _ _, e => by simp at e
  | _, _, k + 1, d, .fz _ t, e => Mx.get (k := k) t (by simpa using e)
  | _, _, 0, d, .ow a1 a2 a3 _ _, e => by
    simp only [List.getElem?_cons_zero, Option.some.injEq, Sl.ow.injEq] at e
    subst e
    exact ⟨_, rfl, a1, a2, a3⟩
  | _, _, k + 1, d, .ow _ _ _ _ t, e => Mx.get (k := k) t (by simpa using e)
/-- one of its lists with other contents -/
theorem Mx.upd {p : Addr} {o : HO} {d1 : D} (hk : ∀ a u, H a = some u → (F a ∨ ¬ Mut (some u)) → upd H p o a = some u) (b1 : Bd K F (upd H p o) p d1) : ∀ {vs : List V} {ss : List Sl} {k : Nat} {d : D}, Mx K F H σ env vs ss → ss[k]? = some (.ow d) → vs[k]? = some (.ref p) →
    (∀ (j : Nat) (d : D), j ≠ k → ss[j]? = some (.ow d) → vs[j]? ≠ some (.ref p)) → Mx K F (upd H p o) σ env vs (ss.set k (.ow d1))
  | _, _, k, d, .nil, e, _, _ => by simp at e
  | _, _, 0, d, .fz _ _, e, _, _ => by simp at e
  | _, _, k + 1, d, .fz z t, e, e2, n => by
    rw [List.set_cons_succ]
    exact .fz (z.mono (fun _ h => h) hk) (Mx.upd hk b1 (k := k) t (by simpa using e) (by simpa using e2) fun j d hj e => by simpa using n (j + 1) d (by omega) (by simpa using e))
  | _, _, 0, d, .ow (p := q) a1 a2 a3 a4 t, e, e2, n => by
    have hq : q = p := by simpa using e2
    subst hq
    rw [List.set_cons_zero]
    refine .ow a1 a2 b1 a4 ?_
    have key : ∀ {vs : List V} {ss : List Sl}, Mx K F H σ env vs ss → (∀ (j : Nat) (d : D), ss[j]? = some (.ow d) → vs[j]? ≠ some (.ref q)) → Mx K F (L2.upd H q o) σ env vs ss := fun m => by
      induction m with
      | nil => intro _; exact .nil
      | fz z _ ih => intro h; exact .fz (z.mono (fun _ h => h) hk) (ih fun j d e => by simpa using h (j + 1) d (by simpa using e))
      | ow c1 c2 c3 c4 _ ih =>
        intro h
        refine .ow c1 c2 (c3.mono (fun _ h => h) hk (upd_ne fun z => ?_)) c4 (ih fun j d e => by simpa using h (j + 1) d (by simpa using e))
        exact h 0 _ rfl (by rw [z]; rfl)
    exact key t a4
  | _, _, k + 1, d, .ow (p := q) (d := dq) a1 a2 a3 a4 t, e, e2, n => by
    rw [List.set_cons_succ]
    have hq : q ≠ p := fun z => n 0 dq (by omega) rfl (by rw [z]; rfl)
    refine .ow a1 a2 (a3.mono (fun _ h => h) hk (upd_ne hq)) (fun j d' e' => ?_) (Mx.upd hk b1 (k := k) t (by simpa using e) (by simpa using e2) fun j d hj e => by simpa using n (j + 1) d (by omega) (by simpa using e))
    rw [List.getElem?_set] at e'
    split at e'
    · rename_i hj
      subst hj
      intro z
      simp only [List.getElem?_cons_succ] at e2
      rw [e2] at z
      exact hq (by simpa using z.symm)
    · exact a4 j d' e'
end
def tSn (K : PySem.W.Frag) (a0 : Addr) (fr : Bool) (i : Nat) (g : List Sl → Fs) : TS := fun Z σ H => ∃ F0 H0 σ0 env0 F env ss L vs, Stp F0 H0 σ0 env0 F H σ env ∧ Rel K a0 F H σ env ∧ Nwf K H0 F H σ env i ss L vs ∧
  ∃ fl env', g ss env = some (fl, env') ∧ FlK K a0 fr F0 H0 σ0 env0 Z fl env'
structure SBn (X : Cx) (a0 : Addr) (fr : Bool) (i : Nat) (sts : List Stmt) (g : List Sl → Fs) : Prop where
  run : PSs X sts (tSn X.K a0 fr i g)
section
variable {X : Cx} {a0 : Addr} {fr : Bool} {i : Nat} {st : Stmt} {rest body : List Stmt} {g : List Sl → Fs} {x : Str}
/-- the block is over -/
theorem nb_end {h : Fs} (b : SB X a0 fr rest h) : SBn X a0 fr i rest (fun _ => h) :=
  ⟨PSsimp b.run fun Z σ H ⟨F0, H0, σ0, env0, F, env, ss, L, vs, S, R, N, fl, env', q, k⟩ => ⟨F, env, R, fl, env', q, k.step S⟩⟩
theorem Rel.setUn {K : PySem.W.Frag} {F : Addr → Prop} {H : Hp} {σ : St} {env : En} (R : Rel K a0 F H σ env) (e : env[i]? = some .un) (v : Option V) : Rel K a0 F H (σ.set i v) env ∧ ∀ a, Owned (σ.set i v) env a → Owned σ env a := by
  have ne : ∀ (j : Nat) (s : Sl), s ≠ .un → env[j]? = some s → i ≠ j := fun j s hs h z => by subst z; rw [e] at h; cases h; exact hs rfl
  have ow : ∀ j, OwAt env j → i ≠ j := fun j ⟨s, h, w⟩ => ne j s (fun z => by subst z; cases w) h
  refine ⟨⟨by simpa using R.len, R.fd, fun j d h => ?_, fun j d h => ?_, fun j d h => ?_, fun j k a hjk w w' q q' => ?_⟩, fun a ⟨j, w, q⟩ => ⟨j, w, ?_⟩⟩
  · rw [List.getElem?_set_ne (ne j (.fz d) (by intro z; cases z) h)]; exact R.fz j d h
  · rw [List.getElem?_set_ne (ne j (.ow d) (by intro z; cases z) h)]; exact R.ow j d h
  · rw [List.getElem?_set_ne (ne j (.mp d) (by intro z; cases z) h)]; exact R.mp j d h
  · rw [List.getElem?_set_ne (ow j w)] at q
    rw [List.getElem?_set_ne (ow k w')] at q'
    exact R.ap j k a hjk w w' q q'
  · rw [List.getElem?_set_ne (ow j w)] at q; exact q
/-- name = [.., ..]: some of them new lists -/
def nstS (i : Nat) (f : Fm) (g : List Sl → Fs) : Fs := fun env => (f env).bind fun y => if y.1.length ≤ 1000 then (put y.2 i .un).bind fun e => g y.1 e else none
theorem nb_start {es : List Expr} {f : Fm} {pos pos' lpos : Pos} (hN : X.N.Nodup) (hi : X.N[i]? = some x) (hx : Loc X.env.scope x) (he : SM X a0 es f) (hr : SBn X a0 fr i rest g) (hs : swapsWith (.List es lpos) (some (.Name x pos')) pos.line X.env = pure false := by rfl)
    (hf : X.fn x = true ∨ X.env.scope.names.lookup x = some .local := by first | exact .inl rfl | exact .inr rfl | assumption) : SB X a0 fr (.Assign [.Name x pos'] (.List es lpos) pos :: rest) (nstS i f g) := by
  obtain ⟨ts, h2, h3⟩ := he.ex
  refine ⟨PSsimp (pss_cons (ps_set hN hi hx (pe_lst h2) hs hf) hr.run) fun Z σ H ⟨F, env, R, fl, env', q, k⟩ => ?_⟩
  obtain ⟨⟨ss, env1⟩, q1, q⟩ := Option.bind_eq_some_iff.mp q
  by_cases hl : ss.length ≤ 1000
  · rw [if_pos hl] at q
    obtain ⟨env2, q2, q⟩ := Option.bind_eq_some_iff.mp q
    refine h3 σ H _ ⟨F, env, R, ss, env1, q1, fun vs F1 H1 S1 R1 m nw => ⟨len1000 (by rw [m.length]; exact hl), fun p hp => ?_⟩⟩
    obtain ⟨rfl, hlt, _⟩ := put_some q2
    have G : Grow F1 H1 F1 (upd H1 p (.lst vs)) := Grow.new1 hp
    have R2 : Rel X.K a0 F1 (upd H1 p (.lst vs)) σ (env1.set i .un) := (G.rel R1).drop i
    obtain ⟨R3, o3⟩ := R2.setUn (List.getElem?_set_self hlt) (some (.ref p))
    have own1 : ∀ a, Owned σ (env1.set i .un) a → Owned σ env1 a := fun a ⟨j, w, q⟩ => ⟨j, (owAt_un w).2, q⟩
    have no : ∀ a, H1 a = none → ¬ Owned (σ.set i (some (.ref p))) (env1.set i .un) a := fun a ha w => (R1.owned (own1 a (o3 a w))).2.2 ha
    have S2 := S1.trans (G.stp (σ := σ) (env := env1))
    refine ⟨F, H, σ, env, F1, env1.set i .un, ss, p, vs, ⟨S2.sub, S2.new, S2.keep, S2.dom, fun a w => S2.own a (own1 a (o3 a w))⟩, R3, ?_, fl, env', q, k⟩
    refine ⟨List.getElem?_set_self (by rw [← R1.len]; exact hlt), upd_same, fun z => R1.fd p z hp, no p hp, ?_, fun j d e1 e2 => ?_, S1.new_of hp, fun j d q e1 e2 => nw j d q e1 e2⟩
    · have key : ∀ {ws : List V} {s2 : List Sl}, Mx X.K F1 H1 σ env1 ws s2 → Mx X.K F1 (upd H1 p (.lst vs)) (σ.set i (some (.ref p))) (env1.set i .un) ws s2 := fun m => by
        induction m with
        | nil => exact .nil
        | fz z _ ih => exact .fz (G.fz z) ih
        | ow a1 a2 a3 a4 _ ih => exact .ow a1 (fun w => a2 (own1 _ (o3 _ w))) (G.bd a3) a4 ih
      exact key m
    · obtain ⟨q', h1, _, _, hb⟩ := m.get e1
      rw [h1] at e2
      cases e2
      exact hb.ne hp
  · rw [if_neg hl] at q; cases q
/-- repr(name) -/
def repN (ss : List Sl) : Option D := repG [.list (ss.map slD')]
theorem pe_repN {p pn pos : Pos} (hN : X.N[i]? = some x) (hv : Vis X.env.scope x) (hg : Gl X "repr") (hm : X.mg "repr" = none) (hgd : X.A.guards = some []) (hu : X.A.units + 100 < cLine)
    (he : starEach [.Name x pn] X.env = (false, eval (.Name x pn) X.env) :: starEach [] X.env := by rfl) (hd : (x == ("__debug__" : Str)) = false := by decide) (hcd : (x == ("__classdict__" : Str)) = false := by decide) :
    PE X (.Call (.Name "repr" p) [.Name x pn] [] pos) (fun σ H Q => ∃ H0 F env ss L vs d, Rel X.K a0 F H σ env ∧ Nwf X.K H0 F H σ env i ss L vs ∧ repN ss = some d ∧ ∀ v H', Stp F H σ env F H' σ env → Rel X.K a0 F H' σ env → Fz X.K F H' v d → Q v H') := by
  refine PEimp (pe_callB (c_rep hgd hu) hg hm boot_repr (pa_cons (pe_var hN hv hd hcd) pa_nil he) (by decide) (by decide) he (by rfl)) fun σ H Q ⟨H0, F, env, ss, L, vs, d, R, N, q, k⟩ => ?_
  obtain ⟨G, g1, g2, g3⟩ := N.mx.frz
  refine ⟨.ref L, N.at', G, [.list (ss.map slD')], d, fun a h => (g2 a h).elim (R.fd a) id, .cons (.inr ⟨L, rfl, .lst N.ls g3⟩) .nil, q, fun v F' H' gr fv => ?_⟩
  have gr' : Grow F H F H' := ⟨fun _ h => h, fun _ h => .inl h, gr.keep⟩
  refine k v H' gr'.stp (gr'.rel R) ?_
  have : ∃ s, d = .str s := by
    unfold repN repG at q
    simp only at q
    split at q
    · cases q; exact ⟨_, rfl⟩
    · cases q
  obtain ⟨s, rfl⟩ := this
  cases fv
  exact .str s
/-- if repr(name) != e: .. -/
def nifS (f : Fn) (h : Fs) (g : List Sl → Fs) : List Sl → Fs := fun ss env => (repN ss).bind fun s => (f env).bind fun y => (neE s y.1).bind fun d => match d with
  | .bool true => (h y.2).bind fun z => match z.1 with
    | .nx => none
    | fl => some (fl, z.2)
  | .bool false => g ss y.2
  | _ => none
theorem nb_if {p pn cp mp pos : Pos} {e : Expr} {f : Fn} {h : Fs} (hN : X.N[i]? = some x) (hv : Vis X.env.scope x) (hg : Gl X "repr") (hm : X.mg "repr" = none) (hgd : X.A.guards = some []) (hu : X.A.units + 100 < cLine) (he : SE X a0 e f) (hb : SB X a0 fr body h) (hr : SBn X a0 fr i rest g)
    (hmk : behindInMarks .NotEq e = false) (hst : starEach [.Name x pn] X.env = (false, eval (.Name x pn) X.env) :: starEach [] X.env := by rfl) (hd : (x == ("__debug__" : Str)) = false := by decide) (hcd : (x == ("__classdict__" : Str)) = false := by decide) :
    SBn X a0 fr i (.If (.Compare (.Call (.Name "repr" p) [.Name x pn] [] cp) [.NotEq] [e] mp) body [] pos :: rest) (nifS f h g) := by
  refine ⟨PSsimp (pss_cons (ps_if (pt_cmpR (o_neE (by omega)) (pe_repN (a0 := a0) (i := i) hN hv hg hm hgd hu hst hd hcd) he.run hmk) hb.run pss_nil) hr.run) fun Z σ H ⟨F0, H0, σ0, env0, F, env, ss, L, vs, S, R, N, fl, env', q, k⟩ => ?_⟩
  obtain ⟨s, q1, q⟩ := Option.bind_eq_some_iff.mp q
  obtain ⟨⟨d2, env2⟩, q2, q⟩ := Option.bind_eq_some_iff.mp q
  obtain ⟨d3, q3, q⟩ := Option.bind_eq_some_iff.mp q
  refine ⟨H0, F, env, ss, L, vs, s, R, N, q1, fun v H1 S1 R1 z1 => ⟨F, env, R1, d2, env2, q2, fun u F2 H2 S2 R2 z2 => ?_⟩⟩
  have N2 := (N.step S1 R).step S2 R1
  have S02 := (S.trans S1).trans S2
  refine ⟨F2, s, d2, d3, R2.fd, .inl (S2.fz R1 z1), .inl z2, q3, fun w F3 H3 gr z3 => ?_⟩
  have R3 := gr.rel R2
  have N3 := N2.step gr.stp R2
  have S03 := S02.trans gr.stp
  match d3, z3, q with
  | .bool true, z3, q =>
    refine ⟨true, fz_bool z3, ?_⟩
    dsimp only
    try rw [if_pos rfl]
    obtain ⟨⟨fl1, env4⟩, q4, q⟩ := Option.bind_eq_some_iff.mp q
    refine ⟨F3, env2, R3, fl1, env4, q4, ?_⟩
    have k3 := k.step S03
    cases fl1 with
    | nx => exact nomatch q
    | bk => cases q; exact k3
    | ct => cases q; exact k3
    | rt d => cases q; exact k3
  | .bool false, z3, q =>
    refine ⟨false, fz_bool z3, ?_⟩
    dsimp only
    try rw [if_neg Bool.false_ne_true]
    exact ⟨F0, H0, σ0, env0, F3, env2, ss, L, vs, S03, R3, N3, fl, env', q, k⟩
  | .none, _, q => exact nomatch q
  | .int _, _, q => exact nomatch q
  | .str _, _, q => exact nomatch q
  | .list _, _, q => exact nomatch q
  | .tuple _, _, q => exact nomatch q
  | .dict _, _, q => exact nomatch q
/-- name[k].append(e) -/
def nappS (k : Nat) (f : Fn) (g : List Sl → Fs) : List Sl → Fs := fun ss env => (f env).bind fun y => match ss[k]? with
  | some (.ow (.list ds)) => if ds.length < Sz then g (ss.set k (.ow (.list (ds ++ [y.1])))) y.2 else none
  | _ => none
theorem nb_app {e : Expr} {f : Fn} {k : Nat} {kk : Int} {j : Nat} {np cp sp ap pos ep : Pos} (hk : kk = k) (hN : X.N[i]? = some x) (hv : Vis X.env.scope x) (he : SE X a0 e f) (hr : SBn X a0 fr i rest g)
    (hbase : attributeBase (.Subscript (.Name x np) (.Constant (.int kk) j cp) sp) "append" X.env (eval (.Subscript (.Name x np) (.Constant (.int kk) j cp) sp) X.env) = eval (.Subscript (.Name x np) (.Constant (.int kk) j cp) sp) X.env := by rfl)
    (hfew : ((backTo ep (starEach [e] X.env)).all (fun x => !x.1) && (backToKw ep (keywordEach [] X.env)).all (fun x => x.1.isSome)
      && decide ([e].length + ([] : List Keyword).length + (if ([] : List Keyword).isEmpty then 0 else 1) < 30)) = true := by rfl)
    (hline : (ap.endLine == ep.line) = true := by rfl) (hs : starEach [e] X.env = (false, eval e X.env) :: starEach [] X.env := by rfl) (hplain : (backTo ep (starEach [] X.env)).any (·.1) = false := by rfl)
    (hsw : swapsWith (.Call (.Attribute (.Subscript (.Name x np) (.Constant (.int kk) j cp) sp) "append" ap) [e] [] ep) none pos.line X.env = pure false := by rfl)
    (hd : (x == ("__debug__" : Str)) = false := by decide) (hcd : (x == ("__classdict__" : Str)) = false := by decide) :
    SBn X a0 fr i (.Expr (.Call (.Attribute (.Subscript (.Name x np) (.Constant (.int kk) j cp) sp) "append" ap) [e] [] ep) pos :: rest) (nappS k f g) := by
  have pa1 : PA X [e] (taOf [tE X.K a0 f]) := pa_cons he.run pa_nil hs
  refine ⟨PSsimp (pss_cons (ps_expr (pe_bm PySem.F.plainAttrs_list PySem.F.slot_list_append PySem.F.type_list_append mt_append (pe_ix ix_list (pe_var hN hv hd hcd) pe_int (fun _ _ => rfl)) pa1 hbase hfew hline hs hplain) hsw) hr.run) fun Z σ H ⟨F0, H0, σ0, env0, F, env, ss, L, vs, S, R, N, fl, env', q, kf⟩ => ?_⟩
  obtain ⟨⟨d1, env1⟩, q1, q⟩ := Option.bind_eq_some_iff.mp q
  dsimp only at q
  split at q
  · rename_i ds hss
    split at q
    · rename_i hz
      subst hk
      obtain ⟨p, hp, nf, no, b⟩ := N.mx.get hss
      cases b with
      | @lst xs0 _ hl w =>
      refine ⟨.ref L, N.at', L, vs, (k : Int), .ref p, rfl, rfl, .inl (.inl N.ls), atI_nat hp, .inl ⟨rfl, xs0, .inl (.inl hl)⟩, F, env, R, d1, env1, q1, fun v F1 H1 S1 R1 z1 => ?_⟩
      have N1 := N.step S1 R
      have S01 := S.trans S1
      obtain ⟨p', hp', nf1, no1, b1⟩ := N1.mx.get hss
      rw [hp] at hp'
      cases hp'
      cases b1 with
      | @lst xs1 _ hl1 w1 =>
      have hm : Mut (H1 p) := by rw [hl1]; trivial
      refine ⟨p, xs1, v, rfl, rfl, hl1, by rw [w1.length]; exact sz_lt hz, ?_⟩
      have hk : ∀ a u, H1 a = some u → (F1 a ∨ ¬ Mut (some u)) → upd H1 p (.lst (xs1 ++ [v])) a = some u := fun a u e h => by
        by_cases ha : a = p
        · subst ha
          rcases h with h | h
          · exact absurd h nf1
          · rw [e] at hm; exact absurd hm h
        · rw [upd_ne ha]; exact e
      have hLp : L ≠ p := fun z => N1.ne k _ hss (by rw [hp, z])
      have hnew : H0 p = none := N1.nC k _ p hss hp
      have dis : ∀ (j : Nat) (d : D), j ≠ k → ss[j]? = some (.ow d) → vs[j]? ≠ some (.ref p) := by
        have key : ∀ {vs : List V} {ss : List Sl}, Mx X.K F1 H1 σ env1 vs ss → ∀ (k j : Nat) (d d' : D), j < k → ss[k]? = some (.ow d) → vs[k]? = some (.ref p) → ss[j]? = some (.ow d') → vs[j]? ≠ some (.ref p) := fun m => by
          induction m with
          | nil => intro k j d d' _ e; simp at e
          | fz z _ ih =>
            intro k j d d' hjk e1 e2 e3
            cases k with
            | zero => omega
            | succ k =>
              cases j with
              | zero => simp at e3
              | succ j => simpa using ih k j d d' (by omega) (by simpa using e1) (by simpa using e2) (by simpa using e3)
          | ow a1 a2 a3 a4 _ ih =>
            intro k j d d' hjk e1 e2 e3
            cases k with
            | zero => omega
            | succ k =>
              cases j with
              | zero =>
                intro z
                simp only [List.getElem?_cons_zero, Option.some.injEq, V.ref.injEq] at z
                subst z
                exact a4 k d (by simpa using e1) (by simpa using e2)
              | succ j => simpa using ih k j d d' (by omega) (by simpa using e1) (by simpa using e2) (by simpa using e3)
        intro j d hjk e
        rcases Nat.lt_or_ge j k with h | h
        · exact key N1.mx k j _ d h hss hp e
        · intro z
          exact key N1.mx j k d _ (by omega) e z hss hp
      have R2 : Rel X.K a0 F1 (upd H1 p (.lst (xs1 ++ [v]))) σ env1 := R1.updE nf1 no1 hm
      refine ⟨F0, H0, σ0, env0, F1, env1, ss.set k (.ow (.list (ds ++ [d1]))), L, vs, ⟨S01.sub, S01.new, fun a o e n => ?_, fun a h => ?_, S01.own⟩, R2, ⟨N1.at', by rw [upd_ne hLp]; exact N1.ls, N1.nf, N1.no, ?_, fun j d e => ?_, N1.nL, fun j d q e e2 => ?_⟩, fl, env', q, kf⟩
      · rw [upd_ne (ne_of_none e hnew)]; exact S01.keep a o e n
      · by_cases ha : a = p
        · subst ha; exact absurd hnew h
        · rw [upd_ne ha]; exact S01.dom a h
      · exact N1.mx.upd hk (.lst upd_same ((w1.append (.cons z1 .nil)).mono (fun _ h => h) hk)) hss hp dis
      · rw [List.getElem?_set] at e
        split at e
        · rename_i hj
          subst hj
          exact N1.ne _ _ hss
        · exact N1.ne j d e
      · rw [List.getElem?_set] at e
        split at e
        · rename_i hj
          subst hj
          exact N1.nC _ _ q hss e2
        · exact N1.nC j d q e e2
    · cases q
  · cases q
end
end Ew

/-! EwSet: how many keys of a list are different: len(set(xs)); a list of texts sorted. -/
namespace Ew
open PySem PySem.Spec PyProof.Rows L2
instance : BEq Key := instBEqOfDecidableEq
def metBy (val : Nat → Key) (i : Nat) : List Key := ((List.range i).map val).foldl step_dedup []
theorem metBy_succ (val : Nat → Key) (i : Nat) : metBy val (i + 1) = step_dedup (metBy val i) (val i) := by
  unfold metBy; rw [List.range_succ, List.map_append, List.foldl_append]; rfl
theorem dd_any (σ : List Key) (v k : Key) : (step_dedup σ v).any (· == k) = (σ.any (· == k) || decide (k = v)) := by
  unfold step_dedup
  by_cases h : σ.any (· == v) = true
  · rw [if_pos h]
    by_cases e : k = v
    · subst e; rw [h]; simp
    · simp [e]
  · rw [if_neg h, List.any_append]
    by_cases e : k = v
    · subst e; simp
    · have hb : (v == k) = false := by simpa [beq_iff_eq] using (fun h' : v = k => e h'.symm)
      simp [hb, e]
theorem dd_len (σ : List Key) (v : Key) : (step_dedup σ v).length = if σ.any (· == v) then σ.length else σ.length + 1 := by
  unfold step_dedup; split <;> simp
theorem metBy_le (val : Nat → Key) : ∀ i, (metBy val i).length ≤ i
  | 0 => Nat.le_refl _
  | i + 1 => by
    rw [metBy_succ, dd_len]
    have := metBy_le val i
    split <;> omega
theorem setOf_cg {prog : Program} {w : World} {h : Heap} {a : Addr} {S S' : Key → Bool} {n n' : Nat} (hS : h.SetOf (mixKind prog w) a S n) (e : ∀ k, S k = S' k) (en : n = n') : h.SetOf (mixKind prog w) a S' n' := by
  have : S = S' := funext e
  subst this; subst en; exact hS
section
variable {prog : Program} {w : World} {A : Around} {R : Result → Shared → Prop} {I : Addr} {fp wr : List Addr} {G : Array GenState → Array GenState → Prop} {n : Nat} {P : Nat → Value → Prop} {St : Nat → Shared → Prop}
theorem loopK (W : WalksS prog w A.in1 I fp wr G n P St) (S : Addr) (hSf : S ∉ fp) (val : Nat → Key) (hval : ∀ i v, P i v → (mixKind prog w).is (val i) v = true ∧ v.scannable = true) (hb : n + 1 < scanBound) :
    ∀ (k i : Nat) (s : Shared), n - i = k → i ≤ n → St i s → s.heap.SetOf (mixKind prog w) S (fun k' => (metBy val i).any (· == k')) (metBy val i).length →
      (∀ s', Moved (S :: wr) G s s' → s'.heap.SetOf (mixKind prog w) S (fun k' => (metBy val n).any (· == k')) (metBy val n).length → R (.ok (.ret .none)) s') →
      codeAny (model prog w) A (.builtin "set.update.loop" ⟨[.ref S, .ref I], []⟩) R s := by
  have hSw : S ∉ wr := fun h => hSf (W.sub _ h)
  have hsub : ∀ b ∈ wr, b ∈ S :: wr := fun b hb => List.mem_cons_of_mem _ hb
  intro k
  induction k with
  | zero =>
    intro i s hk hi hst hS hR
    have hin : i = n := by omega
    subst hin
    refine codeAny_builtin PyProof.Rows.F.entry_set_update_loop ?_
    rw [Around.under_plainId PyProof.Rows.F.plain_set_update_loop _]
    show wpAny _ A.in1 (pyNext (.ref I) >>= _) _ _ s
    refine wpAny_bind (W.done s _ _ hst fun s' hm => ?_)
    show wpAny _ A.in1 (ret Value.none) _ _ s'
    exact wpAny_pure (hR s' (hm.mono hsub) (by
      obtain ⟨o, es, ep, t, ho, rest⟩ := hS
      exact ⟨o, es, ep, t, hm.heap S _ hSw ho, rest⟩))
  | succ k ih =>
    intro i s hk hi hst hS hR
    have hlt : i < n := by omega
    refine codeAny_builtin PyProof.Rows.F.entry_set_update_loop ?_
    rw [Around.under_plainId PyProof.Rows.F.plain_set_update_loop _]
    show wpAny _ A.in1 (pyNext (.ref I) >>= _) _ _ s
    refine wpAny_bind (W.item i s _ _ hlt hst fun v s' hP hst' hm => ?_)
    obtain ⟨hv1, hv2⟩ := hval i v hP
    have hS' : s'.heap.SetOf (mixKind prog w) S (fun k' => (metBy val i).any (· == k')) (metBy val i).length := by
      obtain ⟨o, es, ep, tb, ho, rest⟩ := hS
      exact ⟨o, es, ep, tb, hm.heap S _ hSw ho, rest⟩
    show wpAny _ A.in1 (holding [v] (setAdd S v) >>= _) _ _ s'
    refine wpAny_bind (wpAny_holding ?_)
    unfold setAdd
    refine wpAny_holding ?_
    refine wpAny_bind ((mixKind prog w).pyHash (k := val i) hv1 ?_)
    have hroom : (metBy val i).length + 1 < scanBound := by have := metBy_le val i; omega
    refine wpAny_setAddHashed_of (knd := mixKind prog w) (s := { s' with toks := s'.toks + 1 }) hv1 hv2 hS' hroom fun h' hsb hS2 => ?_
    have hSi : h'.SetOf (mixKind prog w) S (fun k' => (metBy val (i + 1)).any (· == k')) (metBy val (i + 1)).length :=
      setOf_cg hS2 (fun k' => by rw [metBy_succ, dd_any]) (by rw [metBy_succ, dd_len])
    refine wpAny_pure ⟨plainId_quiet PyProof.Rows.F.plain_set_update_loop _, ih (i + 1) _ (by omega) hlt (W.frame _ s' _ _ hst' (Nat.le_succ _) fun b hb o e => ?_) hSi fun s'' hm'' hS'' => ?_⟩
    · rw [hsb.2 b (fun h : b = S => hSf (by rw [← h]; exact hb))]; exact e
    · refine hR s'' (Moved.trans W.gtrans ((hm.mono hsub).then_heap (Nat.le_succ _) fun b o hb e => ?_) hm'') hS''
      rw [hsb.2 b (fun h : b = S => hb (by rw [h]; exact List.mem_cons_self))]; exact e
end
section
variable {prog : Program} {w : World} {A : Around} {E : Value → Shared → Prop} {s : Shared}
theorem call_setK {l : Addr} {items : Array Value} (val : Nat → Key) {Q : Value → Shared → Prop} (hh : A.handled = none) (hl : s.heap.IsList l items) (hi : ∀ (i : Nat) (v : Value), items[i]? = some v → (mixKind prog w).is (val i) v = true ∧ v.scannable = true) (hb : items.size + 1 < scanBound)
    (h : ∀ (h' : Heap) (tk : Nat), h'.SetOf (mixKind prog w) s.heap.objs.size (fun k' => (metBy val items.size).any (· == k')) (metBy val items.size).length →
      (∀ b o, b < s.heap.objs.size → s.heap.get? b = some o → h'.get? b = some o) → Q (.ref s.heap.objs.size) { s with heap := h', toks := tk }) : wpAny (model prog w) A (call (.type "set") [.ref l]) Q E s := by
  obtain ⟨c, tl, hmro⟩ := PySem.F.called_set.mro
  have hmade := PySem.F.called_set.made
  have hsub := PySem.F.called_set.sub
  refine wpAny_call (codeAny_of_tree ?_)
  show wpAny _ _ (callAny (.type "set") _) _ _ _
  refine wpAny_pure ⟨Code.quiet_builtin _ (by decide +kernel), codeAny_builtin PySem.F.entry_type_call ?_⟩
  rw [Around.under_plain (weight_type_call_type "set" [.ref l] []) rfl]
  have h1 := PySem.F.called_set.notType
  have h2 := PySem.F.called_set.canCreate
  have hct := PySem.F.typeCall_set_1 (.ref l)
  repeat (any_goals (first | assumption | wp_step))
  refine codeAny_mono (code_set_new_1 (.ref l) (E := E) (Q₁ := fun obj s₁ => ∃ led : Bool, obj = .ref s.heap.objs.size ∧ s₁ = { s with heap := s.heap.push { cls := .type "set", dict := none, data := .set #[] 0 (.fresh 0 0 led) } }) fun led => ⟨led, rfl, rfl⟩) fun r s₁ hr => ?_
  cases r with
  | error e => exact hr
  | ok fl =>
    cases fl with
    | ret obj =>
      obtain ⟨led, rfl, rfl⟩ := hr
      have hS : (s.heap.push { cls := .type "set", dict := none, data := .set #[] 0 (.fresh 0 0 led) }).get? s.heap.objs.size = some { cls := .type "set", dict := none, data := .set #[] 0 (.fresh 0 0 led) } := Heap.get?_push_size _ rfl
      have hT : Shared.TypeIs { s with heap := s.heap.push { cls := .type "set", dict := none, data := .set #[] 0 (.fresh 0 0 led) } } (.ref s.heap.objs.size) "set" := ⟨_, hS, rfl⟩
      have hli := PySem.F.called_set.init.lookup
      have hbi := PySem.F.called_set.init.bind (.ref s.heap.objs.size)
      repeat (any_goals (first | assumption | wp_step))
      refine codeAny_mono (codeAny_call_builtin (R := wants (fun r s₂ => r = .none ∧ ∃ h' tk, s₂ = { s with heap := h', toks := tk } ∧
          h'.SetOf (mixKind prog w) s.heap.objs.size (fun k' => (metBy val items.size).any (· == k')) (metBy val items.size).length ∧
          (∀ b o, b < s.heap.objs.size → s.heap.get? b = some o → h'.get? b = some o)) E) PySem.F.called_set.init.plain PySem.F.entry_set_init (check_set_init_1 hT ?_)) fun r₂ s₂ hr₂ => ?_
      · obtain ⟨ol, hol, hcl, nl, hdl⟩ := hl
        obtain ⟨ocls, odict, odata, oslots⟩ := ol
        simp only at hcl hdl
        subst hcl; subst hdl
        have hol' : (s.heap.push { cls := .type "set", dict := none, data := .set #[] 0 (.fresh 0 0 led) }).get? l = some { cls := .type "list", dict := odict, data := .seq items nl, slots := oslots } := Heap.get?_push_of_some _ hol
        have hsls := PySem.F.sub_list_set
        have hslf := PySem.F.sub_list_frozenset
        have hne : (Value.type "list" == Value.type "dict") = false := by decide
        have hl1 : (s.heap.push { cls := .type "set", dict := none, data := .set #[] 0 (.fresh 0 0 led) }).IsList l items := ⟨_, hol', rfl, nl, rfl⟩
        unfold Builtin.«set.__init__» noKeywords Builtin.Frozenset.updateFrom
        generalize hPI : pyIter = PI
        wp_walk
        subst hPI
        refine wpAny_pyIter_list hl1 ?_
        refine wpAny_bind (wpAny_runValue ?_)
        have hlS : l < s.heap.objs.size := Heap.lt_size hol
        have hh3 : A.in1.in1.in1.handled = none := by simp [hh]
        have hneI : l ≠ (s.heap.push { cls := .type "set", dict := none, data := .set #[] 0 (.fresh 0 0 led) }).objs.size := by
          rw [Heap.size_push]; exact Nat.ne_of_lt (Nat.lt_succ_of_lt hlS)
        have hSf : s.heap.objs.size ∉ [(s.heap.push { cls := .type "set", dict := none, data := .set #[] 0 (.fresh 0 0 led) }).objs.size, l] := by
          rw [Heap.size_push]; simp only [List.mem_cons, List.mem_singleton, List.not_mem_nil, or_false, not_or]
          exact ⟨Nat.ne_of_lt (Nat.lt_succ_self _), Nat.ne_of_gt hlS⟩
        refine loopK ((Walks.list hh3 _ l hneI items).toS) s.heap.objs.size hSf val hi hb (items.size - 0) 0 _ (by omega) (Nat.zero_le _)
          ⟨⟨_, Heap.get?_push_size _ rfl, rfl, rfl⟩, (hl1.push _)⟩ ?hS0 ?hR
        case hS0 =>
          have hget : ((s.heap.push { cls := .type "set", dict := none, data := .set #[] 0 (.fresh 0 0 led) }).push { cls := .type "list_iterator", data := .fields #[.ref l, .int 0 0] }).get? s.heap.objs.size
              = some { cls := .type "set", dict := none, data := .set #[] 0 (.fresh 0 0 led) } := Heap.get?_push_of_some _ hS
          exact setOf_cg ((PyProof.Rows.setObjOf_fresh (knd := mixKind prog w) led).setOf hget (by unfold scanBound; omega)) (fun _ => rfl) rfl
        case hR =>
          intro s' hm hS'
          obtain ⟨h', g', d', tk', os'⟩ := s'
          have eg : g' = s.gens := hm.gens
          have ed : d' = s.drawn := hm.drawn
          have eo : os' = s.os := hm.os
          subst eg; subst ed; subst eo
          show wpAny _ _ _ _ _ _
          refine wpAny_pure ?_
          show wpAny _ _ (ret Value.none) _ _ _
          refine wpAny_pure ⟨rfl, h', tk', rfl, hS', fun b o hb e => ?_⟩
          have hb1 : b ≠ s.heap.objs.size := Nat.ne_of_lt hb
          have hb2 : b ≠ (s.heap.push { cls := .type "set", dict := none, data := .set #[] 0 (.fresh 0 0 led) }).objs.size := by
            rw [Heap.size_push]; exact Nat.ne_of_lt (Nat.lt_succ_of_lt hb)
          exact hm.heap b o (by simp only [List.mem_cons, List.mem_singleton, List.not_mem_nil, or_false, not_or]; exact ⟨hb1, hb2⟩) (Heap.get?_push_of_some _ (Heap.get?_push_of_some _ e))
      · cases r₂ with
        | error e => exact hr₂
        | ok fl₂ =>
          cases fl₂ with
          | ret r =>
            obtain ⟨rfl, h', tk, rfl, hS', hk'⟩ := hr₂
            repeat (any_goals (first | assumption | wp_step))
            exact h _ _ hS' hk'
          | _ => exact hr₂.elim
    | _ => exact hr.elim
end
def ddK (ks : List Key) : List Key := ks.foldl step_dedup []
def lsD : D → Option D
  | .list ds => (keysD ds).bind fun ks => if ks.length < 4000 then some (.int ((ddK ks).length : Nat)) else none
  | _ => none
theorem keys_at : ∀ {ks : List Key} {us : List Value}, Vals (ks.map kV) us → ∀ (i : Nat) (v : Value), us[i]? = some v → RelV (kV (ks.getD i (.inl 0))) v
  | [], _, r, i, v, e => by cases r; simp at e
  | k :: ks, _, r, i, v, e => by
    cases r with
    | cons r1 r2 =>
      cases i with
      | zero => simp at e; subst e; exact r1
      | succ i => exact keys_at r2 i v (by simpa using e)
theorem metBy_all {ks : List Key} : metBy (fun i => ks.getD i (.inl 0)) ks.length = ddK ks := by
  unfold metBy ddK
  congr 1
  refine List.ext_getElem? fun i => ?_
  rw [List.getElem?_map]
  by_cases h : i < ks.length
  · rw [List.getElem?_range h, List.getElem?_eq_getElem h]; simp [List.getD, h]
  · rw [List.getElem?_eq_none (by simpa using h), List.getElem?_eq_none (by omega)]; rfl
section
variable {X : Cx} {a0 : Addr}
def tLenK (K : PySem.W.Frag) (ta : TE) : TE := fun σ H Q => ta σ H fun x H1 => ∃ (l : Addr) (ks : List Key), x = V.ref l ∧ SqL K H1 l (ks.map kV) ∧ ks.length < 4000 ∧ Q (.int ((ddK ks).length : Nat)) H1
theorem pe_lenK {a : Expr} {ta : TE} {p p2 q pos : Pos} (hc : X.calm = true) (hg : Gl X "len") (hm : X.mg "len" = none) (hg2 : Gl X "set") (hm2 : X.mg "set" = none) (ha : PE X a ta)
    (na : starEach [a] X.env = (false, eval a X.env) :: starEach [] X.env := by rfl) : PE X (.Call (.Name "len" p) [.Call (.Name "set" p2) [a] [] q] [] pos) (tLenK X.K ta) := by
  refine ⟨fun pins s σ H Q I h => ?_⟩
  refine Call_ (ld_blt I hg hm PySem.boot_len ?_)
  refine PyProof.Rows.callWith_builtin1 (PyProof.Rows.args_cons ?_ rfl) rfl rfl
  refine Call_ (ld_blt I hg2 hm2 PyProof.Rows.boot_set ?_)
  refine PyProof.Rows.callWith_type1 (PyProof.Rows.args_cons (thn (ha.run pins s σ H _ I h) fun v s1 ⟨x, H1, I1, r1, q1⟩ => PyProof.Rows.args_nil ?_) na) na rfl
  obtain ⟨l, ks, rfl, hq, h1, q1⟩ := q1
  cases r1
  obtain ⟨its, r, pl, hz⟩ := I1.list hq
  have hl : its.toArray.size = ks.length := by rw [List.size_toArray, ← r.length, List.length_map]
  refine call_setK (fun i => ks.getD i (.inl 0)) (I1.ok.hd hc) pl.isList (fun i v e => ?_) (by rw [hl]; unfold scanBound; omega) fun h' tk hS hk => ?_
  · have := keys_at r i v (by rw [← e]; simp)
    exact ⟨kV_is this, by cases h : ks.getD i (.inl 0) <;> (rw [h] at this; obtain ⟨t, rfl⟩ := this; rfl)⟩
  rw [hl, metBy_all] at hS
  refine PyProof.Rows.args_nil ?_
  obtain ⟨o, es, ep, t, ho, hex, hd, _, _, _, hf, hn⟩ := hS
  have hle : (ddK ks).length ≤ ks.length := by rw [← metBy_all]; exact metBy_le _ _
  have I2 : Inv X pins σ H1 { s1 with heap := h', toks := tk } := I1.kept fun b o e => hk b o (Heap.lt_size e) e
  refine call_len_set ho hex hd hf (by rw [hn]; omega) ⟨.int ((ddK ks).length : Nat), H1, I2.tok _, ⟨_, by rw [hn]⟩, q1⟩
theorem se_lenset {a : Expr} {f : Fn} {p p2 q pos : Pos} (hc : X.calm = true) (hg : Gl X "len") (hm : X.mg "len" = none) (hg2 : Gl X "set") (hm2 : X.mg "set" = none) (ha : SE X a0 a f)
    (na : starEach [a] X.env = (false, eval a X.env) :: starEach [] X.env := by rfl) : SE X a0 (.Call (.Name "len" p) [.Call (.Name "set" p2) [a] [] q] [] pos) (un1 lsD f) := by
  refine ⟨PEimp (pe_lenK hc hg hm hg2 hm2 ha.run na) fun σ H Q ⟨F, env, R, d, env', q, k⟩ => ?_⟩
  obtain ⟨⟨d1, env1⟩, q1, q⟩ := Option.bind_eq_some_iff.mp q
  obtain ⟨d2, q2, q⟩ := Option.map_eq_some_iff.mp q
  cases q
  dsimp only at q1 q2
  unfold lsD at q2
  split at q2
  · obtain ⟨ks, e1, e2⟩ := Option.bind_eq_some_iff.mp q2
    split at e2
    · rename_i hl
      cases e2
      refine ⟨F, env, R, _, env1, q1, fun v F' H' S R' z => ?_⟩
      obtain ⟨l, xs, rfl, h1, w⟩ := (show Br X.K F' H' v (.list _) from .inl z).list
      have hxs := keysD_vals w e1
      subst hxs
      exact ⟨l, ks, rfl, h1.sq, hl, k _ F' H' S R' (.int _)⟩
    · cases e2
  · cases q2
end
/-! ### sorted texts -/
def strsD : List D → Option (List Str)
  | [] => some []
  | .str x :: ds => (strsD ds).map fun xs => x :: xs
  | _ => none
def leS (a b : Str) : Bool := decide (a.cps.toList ≤ b.cps.toList)
def srtS (xs : List Str) : List Str := xs.mergeSort leS
def srtG : GN
  | [.list ds] => (strsD ds).bind fun xs => if xs.length < 64 then some (.list ((srtS xs).map .str)) else none
  | _ => none
theorem ltC : ∀ {a b : List Nat}, ltCps a b = decide (a < b)
  | [], [] => rfl
  | [], b :: r => by simp [ltCps]
  | a :: r, [] => by simp [ltCps]
  | a :: r, b :: t => by
    rw [ltCps, ltC, Bool.eq_iff_iff]
    simp [List.cons_lt_cons_iff]
theorem sorted_pw : ∀ {xs : List Str}, sortedS xs = true → xs.Pairwise (fun a b => leS a b = true)
  | [], _ => .nil
  | x :: r, h => by
    have key : ∀ (r : List Str) (p : Str), risingS p r = true → (∀ y ∈ r, leS p y = true) ∧ r.Pairwise (fun a b => leS a b = true) := by
      intro r
      induction r with
      | nil => exact fun p _ => ⟨fun _ m => absurd m List.not_mem_nil, .nil⟩
      | cons y r ih =>
        intro p h
        rw [risingS, Bool.and_eq_true, Bool.not_eq_true', ltC, decide_eq_false_iff_not] at h
        obtain ⟨h1, h2⟩ := ih y h.2
        have hp : leS p y = true := decide_eq_true (by exact h.1)
        refine ⟨fun z m => ?_, List.pairwise_cons.mpr ⟨h1, h2⟩⟩
        rcases List.mem_cons.mp m with e | m
        · rw [e]; exact hp
        · exact decide_eq_true (List.le_trans (of_decide_eq_true hp) (of_decide_eq_true (h1 z m)))
    exact List.pairwise_cons.mpr (key r x h)
theorem leS_trans {a b c : Str} (h1 : leS a b = true) (h2 : leS b c = true) : leS a c = true := decide_eq_true (List.le_trans (of_decide_eq_true h1) (of_decide_eq_true h2))
theorem leS_tot (a b : Str) : (leS a b || leS b a) = true := by
  rw [Bool.or_eq_true]
  exact (List.le_total a.cps.toList b.cps.toList).imp decide_eq_true decide_eq_true
theorem srt_eq {xs ys : List Str} (p : ys.Perm xs) (h : sortedS ys = true) : ys = srtS xs := by
  refine List.Perm.eq_of_pairwise (le := fun a b => leS a b = true) (fun a b _ _ h1 h2 => ?_) (sorted_pw h) (List.pairwise_mergeSort (le := leS) (fun _ _ _ => leS_trans) leS_tot xs) (p.trans (List.mergeSort_perm xs leS).symm)
  have := List.le_antisymm (of_decide_eq_true h1) (of_decide_eq_true h2)
  cases a; cases b
  simp only [Str.mk.injEq]
  exact Array.toList_inj.mp this
section
variable {X : Cx} {a0 : Addr} {e : Expr} {es : List Expr} {fa : Fa} {x : Str} {p pos : Pos} {id : String} {g : GN}
theorem strsD_vals {K : PySem.W.Frag} {F : Addr → Prop} {H : Hp} : ∀ {ds : List D} {vs : List V} {xs : List Str}, FzAll K F H vs ds → strsD ds = some xs → vs = xs.map V.str
  | _, _, _, .nil, e => by cases e; rfl
  | d :: ds, _, xs, .cons h t, e => by
    unfold strsD at e
    split at e
    · rename_i heq; cases heq
    · rename_i heq
      cases heq
      obtain ⟨xs', e2, e⟩ := Option.map_eq_some_iff.mp e
      subst e
      cases h
      rw [strsD_vals t e2]; rfl
    · cases e
theorem c_sort : CallR X (.builtin "sorted") (rCO X.K srtG) := by
  intro pins s σ H xs us Q I r ⟨F, ds, d, fd, z, q, k⟩
  unfold srtG at q
  split at q
  · rename_i ds
    obtain ⟨ss, e1, e2⟩ := Option.bind_eq_some_iff.mp q
    split at e2
    · rename_i hl
      cases e2
      obtain ⟨y, rfl, b⟩ := one_of z
      obtain ⟨l, vs, rfl, h1, w⟩ := b.list
      have hv := strsD_vals w e1
      subst hv
      exact cr_sortedS pins s σ H _ us Q I r ⟨l, ss, rfl, h1.sq, hl, fun ys p' pm so hp => by
        rw [srt_eq pm so]
        exact KO.lst fd k (fz_strs _) hp⟩
    · cases e2
  · cases q
theorem so_blt (hc : CallR X (.builtin id) (rCO X.K g)) (hg : Gl X x) (hm : X.mg x = none) (hv : bootBuiltins x = some (.builtin id)) (ha : SA X a0 (e :: es) fa) (hn : x ≠ "__name__" := by decide) (hdb : (x == ("__debug__" : Str)) = false := by decide)
    (he : starEach (e :: es) X.env = (false, eval e X.env) :: starEach es X.env := by rfl) (hpl : (backTo pos (starEach es X.env)).any (·.1) = false := by rfl) : SO X a0 (.Call (.Name x p) (e :: es) [] pos) (opN g fa) := by
  obtain ⟨ts, _, h2, h3⟩ := ha.ex
  exact ⟨PEimp (pe_callB hc hg hm hv h2 hn hdb he hpl) fun σ H Q q => co_run h3 q⟩
end
end Ew
namespace Ew
open PySem PySem.Spec PyProof.Rows L2
def popAtG : GU
  | .list ds, [.int i] => if 0 ≤ i ∧ i < 1000000000 then (ds[i.toNat]?).map fun d => (d, .list (ds.eraseIdx i.toNat)) else none
  | _, _ => none
theorem FzAll.eraseIdx {K F H} : ∀ {vs : List V} {ds : List D} (k : Nat), FzAll K F H vs ds → FzAll K F H (vs.eraseIdx k) (ds.eraseIdx k)
  | _, _, _, .nil => .nil
  | _, _, 0, .cons _ t => t
  | _, _, k + 1, .cons h t => .cons h (FzAll.eraseIdx k t)
section
variable {X : Cx}
theorem m_popAt : MtR X "list.pop" (rU' X.K popAtG) := by
  intro pins s σ H x xs v us Q I rx r hh
  obtain ⟨F, a, d0, ds, d, d1, rfl, b, nf, z, fd, q, k⟩ := hh
  unfold popAtG at q
  split at q
  · rename_i i
    split at q
    · rename_i hi
      obtain ⟨dd, q1, q⟩ := Option.map_eq_some_iff.mp q
      cases q
      cases b with
      | lst h w =>
        cases z with
        | cons z1 z2 =>
        cases z2
        obtain ⟨y, ey, fy⟩ := w.get q1
        cases z1
        have hm : Mut (H a) := by rw [h]; trivial
        have hlt := (List.getElem?_eq_some_iff.mp ey).1
        refine mt_popAt pins s σ H _ _ v us Q I rx r ⟨a, _, i, i.toNat, y, rfl, rfl, h, by omega, by omega, ?_, ey, k _ F _ GrowM.of_upd (.lst upd_same (fz_upd nf hm (w.eraseIdx _))) nf (fz_upd1 nf hm fy)⟩
        unfold seqIndex?
        dsimp only
        rw [if_neg (show ¬ i < 0 by omega), if_pos]
        rw [Bool.and_eq_true, decide_eq_true_eq, decide_eq_true_eq]
        omega
    · cases q
  · cases q
end
end Ew

namespace Ew
open PySem PySem.Spec PyProof.Rows L2
/-! ### repr([a, ..]): what the list holds is let go again -/
theorem BrAll.frz {K : PySem.W.Frag} {F : Addr → Prop} {H : Hp} : ∀ {vs : List V} {ds : List D}, BrAll K F H vs ds → ∃ G : Addr → Prop, (∀ a, F a → G a) ∧ (∀ a, G a → F a ∨ H a ≠ none) ∧ FzAll K G H vs ds
  | _, _, .nil => ⟨F, fun _ h => h, fun _ h => .inl h, .nil⟩
  | _, _, .cons h t => by
    obtain ⟨G, g1, g2, g3⟩ := BrAll.frz t
    rcases h with h | ⟨p, rfl, b⟩
    · exact ⟨G, g1, g2, .cons (h.mono g1 fun _ _ e _ => e) g3⟩
    · refine ⟨fun a => G a ∨ a = p, fun a h => .inl (g1 a h), fun a h => h.elim (g2 a) fun e => .inr (e ▸ b.ne), .cons ?_ (g3.mono (fun _ h => .inl h) fun _ _ e _ => e)⟩
      exact (b.mono (fun a h => .inl (g1 a h)) (fun _ _ e _ => e) rfl).fz (.inr rfl)
theorem BrAll.len {K : PySem.W.Frag} {F : Addr → Prop} {H : Hp} : ∀ {vs : List V} {ds : List D}, BrAll K F H vs ds → vs.length = ds.length
  | _, _, .nil => rfl
  | _, _, .cons _ t => by simp [BrAll.len t]
theorem repG_str {ds : List D} {d : D} (q : repG ds = some d) : ∃ s, d = .str s := by
  unfold repG at q
  split at q
  · split at q
    · cases q; exact ⟨_, rfl⟩
    · cases q
  · cases q
def mkL (fa : Fa) : Fa := fun env => (fa env).bind fun x => if x.1.length ≤ 1000 then some ([.list x.1], x.2) else none
section
variable {X : Cx} {a0 : Addr} {es : List Expr} {fa : Fa} {p pos lpos : Pos}
theorem se_repL (hg : Gl X "repr") (hm : X.mg "repr" = none) (hgd : X.A.guards = some []) (hu : X.A.units + 100 < cLine) (ha : SA X a0 es fa)
    (he : starEach [.List es lpos] X.env = (false, eval (.List es lpos) X.env) :: starEach [] X.env := by rfl) : SE X a0 (.Call (.Name "repr" p) [.List es lpos] [] pos) (opN repG (mkL fa)) := by
  obtain ⟨ts, _, h2, h3⟩ := ha.ex
  refine ⟨PEimp (pe_callB (c_rep hgd hu) hg hm boot_repr (pa_cons (pe_lst h2) pa_nil he) (by decide) (by decide) he (by rfl)) fun σ H Q ⟨F, env, R, d, env', q, k⟩ => ?_⟩
  obtain ⟨ds, q1, q2⟩ := opN_inv q
  obtain ⟨⟨ds0, env1⟩, q3, q4⟩ := Option.bind_eq_some_iff.mp q1
  by_cases hl : ds0.length ≤ 1000
  · rw [if_pos hl] at q4
    cases q4
    refine h3 σ H _ ⟨F, env, R, ds0, env1, q3, fun vs F1 H1 S1 R1 z => ⟨len1000 (by rw [z.len]; exact hl), fun p hp => ?_⟩⟩
    have G0 : Grow F1 H1 F1 (upd H1 p (.lst vs)) := Grow.new1 hp
    obtain ⟨G, g1, g2, g3⟩ := z.frz
    refine ⟨G, [.list ds0], d, fun a h => G0.dom ((g2 a h).elim (R1.fd a) id), .cons (.inr ⟨p, rfl, .lst upd_same (g3.mono (fun _ h => h) fun a o e _ => G0.keep a o e)⟩) .nil, q2, fun v F' H' gr fv => ?_⟩
    have gr' : Grow F1 (upd H1 p (.lst vs)) F1 H' := ⟨fun _ h => h, fun _ h => .inl h, gr.keep⟩
    have gr2 := G0.trans gr'
    refine k v F1 H' (S1.trans gr2.stp) (gr2.rel R1) ?_
    obtain ⟨s, rfl⟩ := repG_str q2
    cases fv
    exact .str s
  · rw [if_neg hl] at q4; cases q4
end
end Ew

/-! EwLop: for .. in zip(name, e), the name's list being one's own and left as it is. -/
namespace Ew
open PySem PySem.Spec PyProof.Rows L2
def isMp : Sl → Bool
  | .mp _ => true
  | _ => false
def noMp : En → Bool
  | [] => true
  | s :: env => !isMp s && noMp env
theorem noMp_at : ∀ {env : En} {j : Nat} {d : D}, noMp env = true → env[j]? ≠ some (.mp d)
  | [], _, _, _ => by simp
  | s :: env, 0, d, h => by
    rw [noMp, Bool.and_eq_true] at h
    intro e
    rw [List.getElem?_cons_zero] at e
    cases e
    cases h.1
  | s :: env, j + 1, d, h => by
    rw [noMp, Bool.and_eq_true] at h
    rw [List.getElem?_cons_succ]
    exact noMp_at h.2
section
variable {K : PySem.W.Frag} {a0 p : Addr} {F : Addr → Prop} {H : Hp} {σ σ' : St} {env env' e2 e2' : En} {k : Nat} {d : D} {s s' : Sl} {F' : Addr → Prop} {H' : Hp}
theorem owAt_re (e : env[k]? = some s) (h : s.isOw = true) (h' : s'.isOw = true) {i : Nat} : OwAt (env.set k s') i ↔ OwAt env i := by
  have hk := (List.getElem?_eq_some_iff.mp e).1
  unfold OwAt
  by_cases z : k = i
  · subst z
    rw [List.getElem?_set_self hk]
    exact ⟨fun _ => ⟨s, e, h⟩, fun _ => ⟨s', rfl, h'⟩⟩
  · rw [List.getElem?_set_ne z]
theorem owned_set (e : env[k]? = some s) (h : s.isOw = true) (h' : s'.isOw = true) {a : Addr} : Owned σ (env.set k s') a ↔ Owned σ env a :=
  ⟨fun ⟨i, w, q⟩ => ⟨i, (owAt_re e h h').1 w, q⟩, fun ⟨i, w, q⟩ => ⟨i, (owAt_re e h h').2 w, q⟩⟩
theorem Stp.cg (S : Stp F H σ env F' H' σ' env') (h : ∀ a, Owned σ env a ↔ Owned σ e2 a) (h' : ∀ a, Owned σ' env' a ↔ Owned σ' e2' a) : Stp F H σ e2 F' H' σ' e2' :=
  ⟨S.sub, fun a z => (S.new a z).imp id (Or.imp id (h a).1), fun a o e n => S.keep a o e fun w => n ((h a).1 w), S.dom, fun a w => (S.own a ((h' a).2 w)).imp (h a).1 id⟩
theorem Rel.toMp (R : Rel K a0 F H σ env) (hn : noMp env = true) (e : env[k]? = some (.ow d)) (q : σ[k]? = some (some (.ref p))) : Rel K p F H σ (env.set k (.mp d)) := by
  have hk := (List.getElem?_eq_some_iff.mp e).1
  refine ⟨by rw [List.length_set]; exact R.len, R.fd, fun i d' h => ?_, fun i d' h => ?_, fun i d' h => ?_, fun i j a hij w w' => R.ap i j a hij ((owAt_re e rfl rfl).1 w) ((owAt_re e rfl rfl).1 w')⟩
  · by_cases z : k = i
    · subst z; rw [List.getElem?_set_self hk] at h; cases h
    · rw [List.getElem?_set_ne z] at h; exact R.fz i d' h
  · by_cases z : k = i
    · subst z; rw [List.getElem?_set_self hk] at h; cases h
    · rw [List.getElem?_set_ne z] at h; exact R.ow i d' h
  · by_cases z : k = i
    · subst z
      rw [List.getElem?_set_self hk] at h
      cases h
      obtain ⟨a, e1, e3, e4⟩ := R.ow k d e
      rw [q] at e1
      cases e1
      exact ⟨q, e3, e4⟩
    · rw [List.getElem?_set_ne z] at h
      exact absurd h (noMp_at hn)
theorem Rel.toOw (R : Rel K p F H σ env) (hn : noMp (env.set k .un) = true) (e : env[k]? = some (.mp d)) : Rel K a0 F H σ (env.set k (.ow d)) := by
  have hk := (List.getElem?_eq_some_iff.mp e).1
  refine ⟨by rw [List.length_set]; exact R.len, R.fd, fun i d' h => ?_, fun i d' h => ?_, fun i d' h => ?_, fun i j a hij w w' => R.ap i j a hij ((owAt_re e rfl rfl).1 w) ((owAt_re e rfl rfl).1 w')⟩
  · by_cases z : k = i
    · subst z; rw [List.getElem?_set_self hk] at h; cases h
    · rw [List.getElem?_set_ne z] at h; exact R.fz i d' h
  · by_cases z : k = i
    · subst z
      rw [List.getElem?_set_self hk] at h
      cases h
      obtain ⟨e1, e3, e4⟩ := R.mp k d e
      exact ⟨p, e1, e3, e4⟩
    · rw [List.getElem?_set_ne z] at h; exact R.ow i d' h
  · by_cases z : k = i
    · subst z; rw [List.getElem?_set_self hk] at h; cases h
    · rw [List.getElem?_set_ne z] at h
      refine absurd ?_ (noMp_at (j := i) (d := d') hn)
      rw [List.getElem?_set_ne z]; exact h
/-- the same end, seen with the list at p -/
theorem FlK.toMp {fr : Bool} {Z : Ends} {fl : Fl} (h : FlK K a0 fr F H σ env Z fl (env'.set k (.ow d))) (e : env[k]? = some (.ow d)) (e' : env'[k]? = some (.mp d)) (hn : noMp (env'.set k .un) = true) : FlK K p fr F H σ (env.set k (.mp d)) Z fl env' := by
  have o1 : ∀ a, Owned σ (env.set k (.mp d)) a ↔ Owned σ env a := fun a => owned_set e rfl rfl
  have key : ∀ σ' F' H', Stp F H σ (env.set k (.mp d)) F' H' σ' env' → Stp F H σ env F' H' σ' (env'.set k (.ow d)) := fun σ' F' H' S => S.cg o1 fun a => (owned_set e' rfl rfl).symm
  cases fl with
  | nx => exact fun σ' F' H' S R => h σ' F' H' (key σ' F' H' S) (R.toOw hn e')
  | bk => exact fun σ' F' H' S R => h σ' F' H' (key σ' F' H' S) (R.toOw hn e')
  | ct => exact fun σ' F' H' S R => h σ' F' H' (key σ' F' H' S) (R.toOw hn e')
  | rt v =>
    refine fun v σ' F' H' S R r => h v σ' F' H' (key σ' F' H' S) (R.toOw hn e') ?_
    unfold RetOk at r ⊢
    split at r
    · rename_i hf
      rw [if_pos hf]
      obtain ⟨q, e1, e3, e4, e5, e6⟩ := r
      exact ⟨q, e1, e3, e4.imp (o1 q).1 id, fun w => e5 ((owned_set e' rfl rfl).1 w), e6⟩
    · rename_i hf
      rw [if_neg hf]; exact r
end
open Classical in
noncomputable def forML (k : Nat) (l0 : D) (g : Fg) (body : Fs) : List D → Fs
  | [], env => if env[k]? = some (.mp l0) then some (.nx, env) else none
  | d :: ds, env => if env[k]? = some (.mp l0) then (g d env).bind fun e1 => (body e1).bind fun x => match x.1 with
    | .nx => forML k l0 g body ds x.2
    | .ct => forML k l0 g body ds x.2
    | .bk => some (.nx, x.2)
    | .rt v => some (.rt v, x.2)
    else none
open Classical in
noncomputable def forZM (k : Nat) (f : Fn) (g : Fg) (body : Fs) : Fs := fun env => (env[k]?).bind fun s => match s with
  | .ow (.list l0) => (f env).bind fun y => if y.2[k]? = some (.ow (.list l0)) ∧ noMp y.2 = true then (itemsD y.1).bind fun bs =>
      (forML k (.list l0) g body (zipL l0 bs) (y.2.set k (.mp (.list l0)))).bind fun z => if z.2[k]? = some (.mp (.list l0)) ∧ noMp (z.2.set k .un) = true then some (z.1, z.2.set k (.ow (.list l0))) else none
    else none
  | _ => none
section
variable {X : Cx} {a0 : Addr} {fr : Bool} {f : Fn} {g : Fg} {body : Fs} {ts : List Nat} {k : Nat} {x : Str} {e2 : Expr} {elts : List Expr} {kk : Nat} {sts : List Stmt} {p pn tpos zpos pos : Pos}
theorem pg_ex {X : Cx} {tg : Expr} {t : Addr → TG} (h : ∀ a, PG X tg (t a)) : PG X tg (fun v σ H Q => ∃ a, t a v σ H Q) := ⟨fun pins s σ H v u Q I r ⟨a, q⟩ => (h a).run pins s σ H v u Q I r q⟩
theorem pss_ex {X : Cx} {sts : List Stmt} {t : Addr → TS} (h : ∀ a, PSs X sts (t a)) : PSs X sts (fun Z σ H => ∃ a, t a Z σ H) := ⟨fun pins s σ H Z I ⟨a, q⟩ => (h a).run pins s σ H Z I q⟩
theorem ss_forZM (hp : PassesOwn (model X.prog X.w) X.A X.env X.xe) (hc : X.calm = true) (hg : Gl X "zip") (hm : X.mg "zip" = none) (hN : X.N[k]? = some x) (hv : Vis X.env.scope x) (he : SE X a0 e2 f) (ht : ∀ a, SG X a ts (.Tuple elts kk tpos) g) (hb : ∀ a, SB X a fr sts body)
    (hs1 : starEach [.Name x pn, e2] X.env = (false, eval (.Name x pn) X.env) :: starEach [e2] X.env := by rfl) (hs2 : starEach [e2] X.env = (false, eval e2 X.env) :: starEach [] X.env := by rfl) (hpl : (backTo zpos (starEach [e2] X.env)).any (·.1) = false := by rfl)
    (hs : ∀ y, foldedSetIterable (.Call (.Name "zip" p) [.Name x pn, e2] [] zpos) X.env y = pure y := by intro _; rfl)
    (hd : (x == ("__debug__" : Str)) = false := by decide) (hcd : (x == ("__classdict__" : Str)) = false := by decide) :
    SS X a0 fr (.For (.Tuple elts kk tpos) (.Call (.Name "zip" p) [.Name x pn, e2] [] zpos) sts [] pos) (forZM k f g body) := by
  refine ⟨PSimp (ps_for hp hc (pi_zp hg hm (pa_cons (pe_var hN hv hd hcd) (pa_cons he.run pa_nil hs2) hs1) hs1 hpl) (pg_ex fun a => (ht a).run) (pss_ex fun a => (hb a).run) hs) fun Z σ H ⟨F, env, R, fl, envZ, q, kf⟩ => ?_⟩
  obtain ⟨s, qs, q⟩ := Option.bind_eq_some_iff.mp q
  match s, qs, q with
  | .ow (.list l0), qs, q =>
    obtain ⟨⟨d2, env1⟩, q1, q⟩ := Option.bind_eq_some_iff.mp q
    dsimp only at q
    split at q
    · rename_i hc1
      obtain ⟨hk1, hn1⟩ := hc1
      obtain ⟨bs, q2, q⟩ := Option.bind_eq_some_iff.mp q
      obtain ⟨⟨fl', env'⟩, q3, q⟩ := Option.bind_eq_some_iff.mp q
      dsimp only at q
      split at q
      · rename_i hc2
        obtain ⟨hk2, hn2⟩ := hc2
        cases q
        obtain ⟨a, ha, nf, b⟩ := R.ow k _ qs
        refine ⟨.ref a, ha, F, env, R, d2, env1, q1, fun v F1 H1 S1 R1 z => ?_⟩
        have k1 := (kf.step S1).toMp (p := a) hk1 hk2 hn2
        have R1' := R1.toMp hn1 hk1 ha
        obtain ⟨κ, rfl, st⟩ := z.kv q2
        obtain ⟨ws0, sw0, _⟩ := st.now
        have at0 : ∀ σ' F' H' (envi : En), Rel X.K a F' H' σ' envi → envi[k]? = some (.mp (.list l0)) → ∃ vs, (Kv.ls a).src X.K H' vs ∧ FzAll X.K F' H' vs l0 := fun σ' F' H' envi R' e' => by
          obtain ⟨_, _, b'⟩ := R'.mp k _ e'
          cases b' with
          | lst h w => exact ⟨_, .inl (.inl h), w⟩
        obtain ⟨vs0, sv0, _⟩ := at0 σ F1 H1 _ R1' (by rw [List.getElem?_set_self (List.getElem?_eq_some_iff.mp hk1).1])
        generalize env1.set k (.mp (.list l0)) = envM at q3 k1 R1'
        refine ⟨.ls a, κ, rfl, ⟨vs0, sv0⟩, ⟨ws0, sw0⟩, ?_⟩
        have walk : ∀ σ' F' H' (envi : En) (i : Nat), Rel X.K a F' H' σ' envi → envi[k]? = some (.mp (.list l0)) → (∀ a, F1 a → F' a) → (∀ a o, H1 a = some o → (F1 a ∨ ¬ Mut (some o)) → H' a = some o) →
            (∀ d, (zipL l0 bs)[i]? = some d → (ItZ X.K (.ls a) κ).go i H' ∧ ∀ x H'', (ItZ X.K (.ls a) κ).yld i H' x H'' → ∃ F'', Grow F' H' F'' H'' ∧ Fz X.K F'' H'' x d) ∧ (i = (zipL l0 bs).length → (ItZ X.K (.ls a) κ).stop i H') := fun σ' F' H' envi i R' e' hF hk => by
          obtain ⟨vs, s, z⟩ := at0 σ' F' H' envi R' e'
          obtain ⟨ws, s', z'⟩ := st F' H' hF hk
          have zl := z.length
          have zl' := z'.length
          refine ⟨fun d e => ?_, fun e => ?_⟩
          · obtain ⟨d1, d2, e1, e2, rfl⟩ := zipL_get e
            obtain ⟨x, ex, fx⟩ := z.get e1
            obtain ⟨y, ey, fy⟩ := z'.get e2
            refine ⟨⟨vs, ws, x, y, s, s', ex, ey⟩, fun v H'' ⟨T, x', y', q1, q2, q3, q4, q5⟩ => ?_⟩
            subst q1
            subst q3
            have r1 := q4 vs s
            have r2 := q5 ws s'
            rw [ex] at r1
            rw [ey] at r2
            cases r1
            cases r2
            have G : Grow F' H' F' (upd H' T (.tup [x, y])) := Grow.new1 q2
            exact ⟨F', G, .tup (SqT.of upd_same) (.cons (G.fz fx) (.cons (G.fz fy) .nil))⟩
          · rw [zipL_length] at e
            exact ⟨vs, ws, s, s', by omega⟩
        generalize zipL l0 bs = ds at q3 walk
        refine ⟨fun i m σ' H' => i ≤ ds.length ∧ m = ds.length - i ∧ ∃ F' envi, Rel X.K a F' H' σ' envi ∧ (∀ a, F1 a → F' a) ∧ (∀ a o, H1 a = some o → (F1 a ∨ ¬ Mut (some o)) → H' a = some o) ∧
          forML k (.list l0) g body (ds.drop i) envi = some (fl, env') ∧ FlK X.K a fr F' H' σ' envi Z fl env', ⟨_, Nat.zero_le _, rfl, F1, envM, R1', fun _ h => h, fun _ _ h _ => h, by simpa using q3, k1⟩, ?_⟩
        rintro i m σ3 H3 ⟨hi, rfl, F3, env3, R3, sub3, kp3, q3, k3⟩
        by_cases hlt : i < ds.length
        · have hd : ds.drop i = ds[i] :: ds.drop (i + 1) := List.drop_eq_getElem_cons hlt
          rw [hd] at q3
          unfold forML at q3
          split at q3
          · rename_i hmp
            obtain ⟨env4, q4, q3⟩ := Option.bind_eq_some_iff.mp q3
            obtain ⟨⟨fl5, env5⟩, q5, q3⟩ := Option.bind_eq_some_iff.mp q3
            obtain ⟨go, yld⟩ := (walk σ3 F3 H3 env3 i R3 hmp sub3 kp3).1 ds[i] (List.getElem?_eq_getElem hlt)
            refine .inr ⟨go, fun σ' H' => ∃ m', m' < ds.length - i ∧ (i + 1 ≤ ds.length ∧ m' = ds.length - (i + 1) ∧ ∃ F' envi, Rel X.K a F' H' σ' envi ∧ (∀ a, F1 a → F' a) ∧ (∀ a o, H1 a = some o → (F1 a ∨ ¬ Mut (some o)) → H' a = some o) ∧
              forML k (.list l0) g body (ds.drop (i + 1)) envi = some (fl, env') ∧ FlK X.K a fr F' H' σ' envi Z fl env'), fun σ' H' h => h, fun x H' y => ?_⟩
            obtain ⟨F4, G, fx⟩ := yld x H' y
            refine ⟨a, F4, env3, G.rel R3, ds[i], env4, fx, q4, fun σ5 F5 H5 S5 R5 _ => ?_⟩
            have S35 := G.stp.trans S5
            have k5 := k3.step S35
            have again : ∀ σ6 F6 H6, Stp F5 H5 σ5 env4 F6 H6 σ6 env5 → Rel X.K a F6 H6 σ6 env5 → forML k (.list l0) g body (ds.drop (i + 1)) env5 = some (fl, env') → ∃ m', m' < ds.length - i ∧ (i + 1 ≤ ds.length ∧ m' = ds.length - (i + 1) ∧ ∃ F' envi, Rel X.K a F' H6 σ6 envi ∧ (∀ a, F1 a → F' a) ∧ (∀ a o, H1 a = some o → (F1 a ∨ ¬ Mut (some o)) → H6 a = some o) ∧
                forML k (.list l0) g body (ds.drop (i + 1)) envi = some (fl, env') ∧ FlK X.K a fr F' H6 σ6 envi Z fl env') := fun σ6 F6 H6 S6 R6 q6 => by
              have S36 := S35.trans S6
              exact ⟨_, by omega, hlt, rfl, F6, env5, R6, fun a h => S36.sub a (sub3 a h), fun a o h1 h2 => S36.hk R3 a o (kp3 a o h1 h2) (h2.elim (fun z => .inl (sub3 a z)) .inr), q6, k5.step S6⟩
            refine ⟨a, F5, env4, R5, fl5, env5, q5, ?_⟩
            cases fl5 with
            | nx => exact fun σ6 F6 H6 S6 R6 => again σ6 F6 H6 S6 R6 q3
            | ct => exact fun σ6 F6 H6 S6 R6 => again σ6 F6 H6 S6 R6 q3
            | bk => cases q3; exact k5
            | rt d => cases q3; exact k5
          · cases q3
        · have e : i = ds.length := by omega
          rw [List.drop_eq_nil_of_le (by omega)] at q3
          unfold forML at q3
          split at q3
          · rename_i hmp
            refine .inl ⟨(walk σ3 F3 H3 env3 i R3 hmp sub3 kp3).2 e, ?_⟩
            cases q3
            exact k3 σ3 F3 H3 Stp.refl R3
          · cases q3
      · cases q
    · cases q
  | .un, _, q => exact nomatch q
  | .fz _, _, q => exact nomatch q
  | .mp _, _, q => exact nomatch q
  | .ow .none, _, q => exact nomatch q
  | .ow (.bool _), _, q => exact nomatch q
  | .ow (.int _), _, q => exact nomatch q
  | .ow (.str _), _, q => exact nomatch q
  | .ow (.tuple _), _, q => exact nomatch q
  | .ow (.dict _), _, q => exact nomatch q
end
end Ew

/-! EwDpr: dict(pairs), a list of pairs of a key and a value. -/
namespace Ew
open PySem PySem.Spec PyProof.Rows L2
def pairsD : List D → Option (List Key × List D)
  | [] => some ([], [])
  | .tuple [a, b] :: ds => (dK a).bind fun k => (pairsD ds).map fun x => (k :: x.1, b :: x.2)
  | _ => none
def dpG : GN
  | [.list ds] => (pairsD ds).bind fun x => some (.dict (mgD [] (x.1.zip x.2)))
  | _ => none
section
variable {X : Cx}
theorem pairs_vals {K : PySem.W.Frag} {F : Addr → Prop} {H : Hp} : ∀ {ds : List D} {vs : List V} {ks : List Key} {bs : List D}, FzAll K F H vs ds → pairsD ds = some (ks, bs) →
    ∃ (ps : List Addr) (ys : List V), vs = ps.map V.ref ∧ Paired (fun p kv => SqT K H p [kV kv.1, kv.2]) ps (ks.zip ys) ∧ FzAll K F H ys bs
  | _, _, _, _, .nil, e => by cases e; exact ⟨[], [], rfl, .nil, .nil⟩
  | d :: ds, _, ks, bs, .cons h t, e => by
    unfold pairsD at e
    split at e
    · rename_i heq; cases heq
    · rename_i a b ds' heq
      cases heq
      obtain ⟨k, e1, e⟩ := Option.bind_eq_some_iff.mp e
      obtain ⟨⟨ks', bs'⟩, e2, e⟩ := Option.map_eq_some_iff.mp e
      cases e
      obtain ⟨ps, ys, e3, pr, fz⟩ := pairs_vals t e2
      cases h with
      | tup h1 w =>
        cases w with
        | cons w1 w =>
          cases w with
          | cons w2 w =>
            cases w
            have ek := Br.key (.inl w1) e1
            subst ek
            subst e3
            exact ⟨_ :: ps, _ :: ys, rfl, .cons h1 pr, .cons w2 fz⟩
    · cases e
theorem c_dictP (hc : X.calm = true) : CallR X (.type "dict") (rCO X.K dpG) := by
  intro pins s σ H xs us Q I r ⟨F, ds, d, fd, z, q, k⟩
  unfold dpG at q
  split at q
  · rename_i ds
    obtain ⟨⟨ks, bs⟩, e1, e2⟩ := Option.bind_eq_some_iff.mp q
    cases e2
    obtain ⟨y, rfl, b⟩ := one_of z
    obtain ⟨l, vs, rfl, h1, w⟩ := b.list
    obtain ⟨ps, ys, rfl, pr, fz⟩ := pairs_vals w e1
    refine call_dictP hc pins s σ H _ us Q I r ⟨l, ps, ks.zip ys, rfl, h1.sq, pr, fun p hp => ?_⟩
    have G : Grow F H F (upd H p (.dK (mergeK [] (ks.zip ys)))) := Grow.new1 hp
    exact k p F _ G hp (fun f => fd p f hp) (.dic upd_same (FzKv.merge (G.fzAll fz) .nil))
  · cases q
end
end Ew

/-! EwSml: sum of a list of ints; for over reversed(range(n)); d.get(k, x). -/
namespace Ew
open PySem PySem.Spec PyProof.Rows L2
def intsD : List D → Option (List Int)
  | [] => some []
  | .int i :: ds => (intsD ds).map fun ns => i :: ns
  | _ => none
def sumG : GN
  | [.list ds] => (intsD ds).map fun ns => .int ns.sum
  | _ => none
theorem intsD_vals {K : PySem.W.Frag} {F : Addr → Prop} {H : Hp} : ∀ {ds : List D} {vs : List V} {ns : List Int}, FzAll K F H vs ds → intsD ds = some ns → vs = ns.map V.int
  | _, _, _, .nil, e => by cases e; rfl
  | d :: ds, _, ns, .cons h t, e => by
    unfold intsD at e
    split at e
    · rename_i heq; cases heq
    · rename_i heq
      cases heq
      obtain ⟨ns', e2, e⟩ := Option.map_eq_some_iff.mp e
      subst e
      cases h
      rw [intsD_vals t e2]; rfl
    · cases e
section
variable {X : Cx} {a0 : Addr} {e e2 e3 : Expr} {f g h : Fn} {p pos p2 pos2 apos : Pos} {tg : Expr}
theorem c_sum (hc : X.calm = true) : CallR X (.builtin "sum") (rC X.K sumG) := by
  intro pins s σ H xs us Q I r ⟨F, ds, d, fd, z, q, k⟩
  unfold sumG at q
  split at q
  · obtain ⟨ns, e1, e2⟩ := Option.map_eq_some_iff.mp q
    cases e2
    obtain ⟨y, rfl, b⟩ := one_of z
    obtain ⟨l, vs, rfl, h1, w⟩ := b.list
    have hv := intsD_vals w e1
    subst hv
    exact cr_sum hc pins s σ H _ us Q I r ⟨l, ns, rfl, h1.sq, KP.fz k (.int _)⟩
  · cases q
/-! ### reversed(range(n)) -/
def rrF (f : Fn) : Fi := fun env => (f env).bind fun x => match x.1 with
  | .int n => if okG 0 n = true then some ((rngL 0 n.toNat).reverse, x.2) else none
  | _ => none
theorem rev_rng {n i : Nat} (h : i < n) : (rngL 0 n).reverse[i]? = some (.int (((n - 1 - i : Nat) : Int))) := by
  have hl : (rngL 0 n).length = n := by unfold rngL; rw [List.length_map, List.length_range]
  rw [List.getElem?_reverse (by omega), hl]
  unfold rngL
  rw [List.getElem?_map, List.getElem?_range (by omega)]
  simp
theorem si_rr (hg : Gl X "reversed") (hm : X.mg "reversed" = none) (hg' : Gl X "range") (hm' : X.mg "range" = none) (he : SE X a0 e f) (na : starEach [e] X.env = (false, eval e X.env) :: starEach [] X.env := by rfl)
    (nb : starEach [.Call (.Name "range" p2) [e] [] pos2] X.env = (false, eval (.Call (.Name "range" p2) [e] [] pos2) X.env) :: starEach [] X.env := by rfl) : SI X a0 tg (.Call (.Name "reversed" p) [.Call (.Name "range" p2) [e] [] pos2] [] pos) (rrF f) := by
  refine ⟨PIimp (pi_revR hg hm (prg_1 hg' hm' he.run na) nb) fun σ H R ⟨F, env, Rl, ds, env', q, k⟩ => ?_⟩
  obtain ⟨⟨d1, env1⟩, q1, q⟩ := Option.bind_eq_some_iff.mp q
  cases d1 with
  | int n =>
    by_cases hn : okG 0 n = true
    · simp only [hn, if_true] at q
      cases q
      have hr := okG_rg hn
      have ho : -(2 ^ 62) ≤ n ∧ n < 2 ^ 62 := ⟨hr.2.2.1, hr.2.2.2.1⟩
      refine ⟨F, env, Rl, _, env', q1, fun v F1 H1 S1 R1 z => ⟨n, Br.int (.inl z), by decide, by decide, ho.1, ho.2, k _ F1 H1 S1 R1 ?_⟩⟩
      intro F' H' i hF hk fd
      have hl : ((rngL 0 n.toNat).reverse).length = n.toNat := by rw [List.length_reverse]; unfold rngL; rw [List.length_map, List.length_range]
      refine ⟨fun d e => ?_, fun e => ?_⟩
      · have hi : i < n.toNat := by
          have := (List.getElem?_eq_some_iff.mp e).1
          omega
        rw [rev_rng hi] at e
        cases e
        refine ⟨by show i < (n - 0).toNat; omega, fun x H'' ⟨e1, e2⟩ => ?_⟩
        subst e1
        subst e2
        refine ⟨F', Grow.refl, ?_⟩
        have : (0 + (((n - 0).toNat : Nat) : Int) - 1 + ((i : Nat) : Int) * (-1)) = ((n.toNat - 1 - i : Nat) : Int) := by omega
        rw [this]
        exact .int _
      · show (n - 0).toNat ≤ i
        omega
    · simp only [hn, if_false] at q
      cases q
  | none => cases q
  | bool _ => cases q
  | str _ => cases q
  | list _ => cases q
  | tuple _ => cases q
  | dict _ => cases q
/-! ### d.get(k, x) -/
def dgF (f g h : Fn) : Fn := fun env => (f env).bind fun x => (g x.2).bind fun y => (h y.2).bind fun z => match x.1 with
  | .dict kvs => (dK y.1).map fun k => ((kvGet kvs k).getD z.1, z.2)
  | _ => none
theorem se_dget {o e f' : Expr} {cpos : Pos} (hu : X.A.units + 1 < cLine) (ho : SE X a0 o f) (he : SE X a0 e g) (hf : SE X a0 f' h) (m : M2 X o "get" apos e f' cpos) : SE X a0 (.Call (.Attribute o "get" apos) [e, f'] [] cpos) (dgF f g h) := by
  refine ⟨PEimp (pe_dget2 hu ho.run he.run hf.run m) fun σ H Q ⟨F, env, R, d, env', q, k⟩ => ?_⟩
  obtain ⟨⟨d1, env1⟩, q1, q⟩ := Option.bind_eq_some_iff.mp q
  obtain ⟨⟨d2, env2⟩, q2, q⟩ := Option.bind_eq_some_iff.mp q
  obtain ⟨⟨d3, env3⟩, q3, q⟩ := Option.bind_eq_some_iff.mp q
  match d1, q1, q with
  | .dict kvs, q1, q =>
    obtain ⟨kk, e1, q⟩ := Option.map_eq_some_iff.mp q
    cases q
    refine ⟨F, env, R, _, env1, q1, fun v F1 H1 S1 R1 z1 => ?_⟩
    obtain ⟨pp, ks, rfl, hd, _⟩ := (show Br X.K F1 H1 v (.dict kvs) from .inl z1).dict
    refine ⟨pp, rfl, .inl ⟨ks, .inl hd⟩, F1, env1, R1, d2, env2, q2, fun v2 F2 H2 S2 R2 z2 => ⟨F2, env2, R2, d3, env3, q3, fun v3 F3 H3 S3 R3 z3 => ?_⟩⟩
    have z1' := S3.fz R2 (S2.fz R1 z1)
    have z2' := S3.fz R2 z2
    obtain ⟨pp', ks', ep, hd', zz⟩ := (show Br X.K F3 H3 (.ref pp) (.dict kvs) from .inl z1').dict
    cases ep
    have ey := Br.key (.inl z2') e1
    subst ey
    refine ⟨valV ks' kk, .inl ⟨ks', kk, .inl hd', rfl, rfl⟩, k _ F3 H3 ((S1.trans S2).trans S3) R3 ?_⟩
    rcases zz.val kk with ⟨y1, y2⟩ | ⟨dd, vv, y1, y2, fz⟩
    · rw [y1, y2]; exact z3
    · rw [y1, y2]; exact fz
  | .none, _, q => exact nomatch q
  | .bool _, _, q => exact nomatch q
  | .int _, _, q => exact nomatch q
  | .str _, _, q => exact nomatch q
  | .list _, _, q => exact nomatch q
  | .tuple _, _, q => exact nomatch q
end
end Ew

/-! EwDst: name[k] = v and name.setdefault(k, v), the name's own dict. -/
namespace Ew
open PySem PySem.Spec PyProof.Rows L2
section
variable {X : Cx} {a0 : Addr} {i : Nat} {y : Str} {yp : Pos}
theorem kv_upd {K : PySem.W.Frag} {F : Addr → Prop} {H : Hp} {a : Addr} {o : HO} {kvs : List (Key × V)} {ds : List (D × D)} (nf : ¬ F a) (hm : Mut (H a)) (z : FzKv K F H kvs ds) : FzKv K F (upd H a o) kvs ds := z.mono (fun _ h => h) fun b u e w => by
  by_cases q : b = a
  · subst q
    rcases w with w | w
    · exact absurd w nf
    · rw [e] at hm; exact absurd hm w
  · rw [upd_ne q]; exact e
def rSetD : TSet := fun o k v H Q => ∃ (a : Addr) (H' : Hp), o = .ref a ∧ DPut H a k v H' ∧ Q H'
theorem set_dict (hu : X.A.units + 1 < cLine) : PSet X rSetD := by
  intro pins s σ H o k v ov iv u Q I ro ri rv h
  obtain ⟨a, H', rfl, g, q⟩ := h
  cases ro
  exact d_setItem hu I g ri rv fun s' I' => ⟨H', I', q⟩
def subDG (i : Nat) (f : Fn) : Fg := fun d env => (look env i).bind fun _ => (f env).bind fun x => (dK x.1).bind fun k => (x.2[i]?).bind fun s => match s with
  | .ow (.dict kvs) => if kvs.length < Sz then some (x.2.set i (.ow (.dict (putD kvs k d)))) else none
  | _ => none
theorem sg_subD {ie : Expr} {f : Fn} {pos : Pos} (hu : X.A.units + 1 < cLine) (hN : X.N[i]? = some y) (hv : Vis X.env.scope y) (hi : SE X a0 ie f)
    (ha : ∀ v, assign (.Subscript (.Name y yp) ie pos) X.env v = (do
      let ov ← holding [v] (eval (.Name y yp) X.env)
      let iv ← holding [v, ov] (eval ie X.env)
      standAt pos
      holding [v, ov, iv] (setItem ov iv v)
      release [v, ov, iv] []) := by intro _; rfl) (hd : (y == ("__debug__" : Str)) = false := by decide) (hcd : (y == ("__classdict__" : Str)) = false := by decide) : SG X a0 [] (.Subscript (.Name y yp) ie pos) (subDG i f) := by
  refine ⟨PGimp (pg_sub (pe_var hN hv hd hcd) hi.run (set_dict hu) ha) fun v σ H Q ⟨F, env, R, d, env', z, q, k⟩ => ?_⟩
  obtain ⟨d0, q0, q⟩ := Option.bind_eq_some_iff.mp q
  obtain ⟨⟨dk, env1⟩, q1, q⟩ := Option.bind_eq_some_iff.mp q
  obtain ⟨kk, q2, q⟩ := Option.bind_eq_some_iff.mp q
  obtain ⟨s, q3, q⟩ := Option.bind_eq_some_iff.mp q
  dsimp only at q1 q2 q3 q
  split at q
  · rename_i kvs
    split at q
    · rename_i hz
      cases q
      obtain ⟨v0, hv0, _⟩ := R.look q0
      refine ⟨v0, hv0, F, env, R, _, env1, q1, fun u F1 H1 S1 R1 zu => ?_⟩
      obtain ⟨a, ha, nf, b⟩ := R1.addr q3 rfl rfl
      rw [hv0] at ha; cases ha
      have eu := Br.key (.inl zu) q2
      subst eu
      obtain ⟨pp, ks, ep, h, w⟩ := (show Br X.K F1 H1 (.ref a) (.dict kvs) from .inr ⟨a, rfl, b⟩).dict
      cases ep
      have hm : Mut (H1 a) := by rw [h]; trivial
      refine ⟨a, _, rfl, DPut.k h (sz_lt (by rw [w.length]; exact hz)), ?_⟩
      obtain ⟨R2, S2, _⟩ := R1.modify q3 (show Sl.redo _ _ = some _ from rfl) hv0 nf hm GrowM.of_upd (.dic upd_same (FzKv.put (fz_upd1 nf hm (S1.fz R z)) (kv_upd nf hm w))) nf
      exact k σ F1 _ (S1.trans S2) R2 ⟨rfl, fun _ _ => rfl⟩
    · cases q
  · cases q
/-! ### name.setdefault(k, v) -/
def isDic : D → Option Unit
  | .dict _ => some ()
  | _ => none
def sdF (i : Nat) (f g : Fn) : Fn := fun env => ((look env i).bind isDic).bind fun _ => (f env).bind fun x => (g x.2).bind fun y => (dK x.1).bind fun k => (y.2[i]?).bind fun s => match s with
  | .ow (.dict kvs) => if kvs.length < Sz then match kvGet kvs k with
      | some d => some (d, y.2)
      | none => some (y.1, y.2.set i (.ow (.dict (putD kvs k y.1))))
    else none
  | _ => none
theorem se_sd {ke de : Expr} {f g : Fn} {apos cpos : Pos} (hN : X.N[i]? = some y) (hv : Vis X.env.scope y) (hk : SE X a0 ke f) (hd' : SE X a0 de g)
    (m : M2 X (.Name y yp) "setdefault" apos ke de cpos) (hd : (y == ("__debug__" : Str)) = false := by decide) (hcd : (y == ("__classdict__" : Str)) = false := by decide) : SE X a0 (.Call (.Attribute (.Name y yp) "setdefault" apos) [ke, de] [] cpos) (sdF i f g) := by
  refine ⟨PEimp (pe_dsetd (pe_var hN hv hd hcd) hk.run hd'.run m) fun σ H Q ⟨F, env, R, d, env', q, k⟩ => ?_⟩
  obtain ⟨u0, q0, q⟩ := Option.bind_eq_some_iff.mp q
  obtain ⟨d0, q0, q00⟩ := Option.bind_eq_some_iff.mp q0
  obtain ⟨⟨dk, env1⟩, q1, q⟩ := Option.bind_eq_some_iff.mp q
  obtain ⟨⟨dv, env2⟩, q2, q⟩ := Option.bind_eq_some_iff.mp q
  obtain ⟨kk, q3, q⟩ := Option.bind_eq_some_iff.mp q
  obtain ⟨s, q4, q⟩ := Option.bind_eq_some_iff.mp q
  dsimp only at q1 q2 q3 q4 q
  unfold isDic at q00
  split at q00
  · obtain ⟨v0, hv0, b0⟩ := R.look q0
    obtain ⟨p0, ks0, rfl, h0, _⟩ := b0.dict
    split at q
    · rename_i kvs
      split at q
      · rename_i hz
        refine ⟨.ref p0, hv0, p0, rfl, .inl ⟨ks0, .inl h0⟩, F, env, R, dk, env1, q1, fun v1 F1 H1 S1 R1 z1 => ⟨F1, env1, R1, dv, env2, q2, fun v2 F2 H2 S2 R2 z2 => ?_⟩⟩
        obtain ⟨a, ha, nf, b⟩ := R2.addr q4 rfl rfl
        rw [hv0] at ha; cases ha
        have ek := Br.key (.inl (S2.fz R1 z1)) q3
        subst ek
        obtain ⟨pp, ks, ep, h, w⟩ := (show Br X.K F2 H2 (.ref p0) (.dict kvs) from .inr ⟨p0, rfl, b⟩).dict
        cases ep
        have hm : Mut (H2 p0) := by rw [h]; trivial
        refine ⟨ks, kk, h, rfl, sz_lt (by rw [w.length]; exact hz), fun v e => ?_, fun e => ?_⟩
        · rcases w.val kk with ⟨y1, y2⟩ | ⟨dd, vv, y1, y2, fz⟩
          · rw [y2] at e; cases e
          · rw [y2] at e
            cases e
            rw [y1] at q
            cases q
            exact k _ F2 H2 (S1.trans S2) R2 fz
        · rcases w.val kk with ⟨y1, y2⟩ | ⟨dd, vv, y1, y2, fz⟩
          · rw [y1] at q
            cases q
            obtain ⟨R3, S3, _⟩ := R2.modify q4 (show Sl.redo _ _ = some _ from rfl) hv0 nf hm GrowM.of_upd (.dic upd_same (FzKv.put (fz_upd1 nf hm z2) (kv_upd nf hm w))) nf
            exact k _ F2 _ ((S1.trans S2).trans S3) R3 (fz_upd1 nf hm z2)
          · rw [y2] at e; cases e
      · cases q
    · cases q
  · cases q00
end
end Ew

/-! EwSst: sorted(set(text)). -/
namespace Ew
open PySem PySem.Spec PyProof.Rows L2
def txO (e : Int × Value) : Str := match e.2 with
  | .str k _ => k
  | _ => Str.empty
def TxE (w : World) (e : Int × Value) : Prop := ∃ k tk, e = (hashStr w k, Value.str k tk)
/-- the set of texts at a: its members, each once, in some order -/
structure TxR (w : World) (h : Heap) (a : Addr) (ks : List Str) : Prop where
  ex : ∃ o es ep t, h.get? a = some o ∧ o.ExactSet ∧ o.data = .set es ep t ∧ (∀ e ∈ es.toList, TxE w e) ∧ (es.toList.map txO).Perm ks ∧ es.size < scanBound ∧ t.fits es.size = true ∧ Ris t.place.toList ∧ (w.params.followText "set-order" = true ∨ t.led = true)
  one : ks.Nodup
section
variable {prog : Program} {w : World} {A : Around} {E : Value → Shared → Prop} {s : Shared} {a : Addr} {ks : List Str} {k : Str}
theorem txe_elems {l : List (Int × Value)} (g : ∀ e ∈ l, TxE w e) : ElemsOf (strKind prog w) l := fun e he => by
  obtain ⟨k, tk, rfl⟩ := g e he
  exact ⟨⟨k, strKind_is prog w k tk, rfl⟩, rfl⟩
theorem txe_is {e : Int × Value} (g : TxE w e) (k : Str) : (strKind prog w).is k e.2 = true ↔ txO e = k := by
  obtain ⟨k0, tk, rfl⟩ := g
  constructor
  · exact fun h => (strKind prog w).inj _ _ _ (strKind_is prog w k0 tk) h
  · rintro rfl
    exact strKind_is prog w _ tk
theorem txe_mem {l : List (Int × Value)} (g : ∀ e ∈ l, TxE w e) (k : Str) : k ∈ l.map txO ↔ ∃ e ∈ l, (strKind prog w).is k e.2 = true := by
  rw [List.mem_map]
  exact ⟨fun ⟨e, he, q⟩ => ⟨e, he, (txe_is (g e he) k).2 q⟩, fun ⟨e, he, q⟩ => ⟨e, he, (txe_is (g e he) k).1 q⟩⟩
theorem storeT {g : Bool → Sem Unit} (hg : ∀ (b : Bool) (s₁ : Shared) (Q' : Unit → Shared → Prop), Q' () s₁ → wpAny (model prog w) A (g b) Q' E s₁)
    {o : Obj} {es es1 : Array (Int × Value)} {ep : Nat} {t t2 : SetTable} (ho : s.heap.get? a = some o) (hex : o.ExactSet) (hd : o.data = .set es ep t)
    (g1 : ∀ e ∈ es1.toList, TxE w e) (pm : (es1.toList.map txO).Perm ks) (nd : ks.Nodup) (hb : es1.size < scanBound) (hf : t2.fits es1.size = true) (hr : Ris t2.place.toList) (hl : w.params.followText "set-order" = true ∨ t2.led = true) {wd : Bool} {R : Option Bool → Shared → Prop}
    (hR : ∀ h', Heap.SameBut a s.heap h' → TxR w h' a ks → R (some true) { s with heap := h' }) :
    wpAny (model prog w) A (do
        storeSet a es1 t2
        if (!wd && t2.tooFull) = true then do
            g (relayAll t2 es1 (SetTable.grown es1.size)).2.2
            storeSet a (relayAll t2 es1 (SetTable.grown es1.size)).1 (relayAll t2 es1 (SetTable.grown es1.size)).2.1
            pure (some true)
          else pure (some true)) R E s := by
  refine wpAny_bind (wpAny_storeSet_of ho hd ?_ (fits_of_scanBound hb))
  have o1 := store_at (es' := es1) (t' := t2) ho hd
  have sb := Heap.SameBut.update s.heap a (Obj.putSet es1 t2)
  split
  · have z1 := relayAll_perm t2 es1 (SetTable.grown es1.size)
    have z2 := relayAll_fits t2 es1 (SetTable.grown es1.size)
    have z3 := relayAll_ris t2 es1 (SetTable.grown es1.size)
    have z4 := relayAll_led t2 es1 (SetTable.grown es1.size)
    generalize relayAll t2 es1 (SetTable.grown es1.size) = Z at z1 z2 z3 z4 ⊢
    obtain ⟨es2, t3, gave⟩ := Z
    dsimp only at z1 z2 z3 z4 ⊢
    have hb2 : es2.size < scanBound := by rw [← Array.length_toList, z1.length_eq, Array.length_toList]; exact hb
    refine wpAny_bind (hg _ _ _ ?_)
    refine wpAny_bind (wpAny_storeSet_of o1 rfl ?_ (fits_of_scanBound hb2))
    have o2 := store_at (es' := es2) (t' := t3) o1 rfl
    exact wpAny_pure (hR _ (sb.trans (Heap.SameBut.update _ a _)) ⟨⟨_, es2, _, t3, o2, hex, rfl, fun e he => g1 e (z1.mem_iff.mp he), (z1.map txO).trans pm, hb2, z2, z3, hl.imp id fun z => by rw [z4]; exact z⟩, nd⟩)
  · exact wpAny_pure (hR _ sb ⟨⟨_, es1, _, t2, o1, hex, rfl, g1, pm, hb, hf, hr, hl⟩, nd⟩)
theorem addTs {tk : Tok} {Q : Bool → Shared → Prop} (R : TxR w s.heap a ks) (room : ks.length + 1 < scanBound)
    (hQ : ∀ b h', Heap.SameBut a s.heap h' → TxR w h' a (if k ∈ ks then ks else k :: ks) → Q b { s with heap := h' }) :
    wpAny (model prog w) A (setAddHashed a (.str k tk) ((strKind prog w).hash k)) Q E s := by
  obtain ⟨⟨o, es, ep, t, ho, hex, hd, g, pm, hb, hf, hr, hl⟩, nd⟩ := R
  have hkey : (strKind prog w).is k (.str k tk) = true := strKind_is prog w k tk
  have hsc : (Value.str k tk).scannable = true := rfl
  have hel : ElemsOf (strKind prog w) es.toList := txe_elems g
  unfold setAddHashed setAddHashedIn
  refine wpAny_holding (wpAny_bind (wpAny_setState_of ho hd hf ?_))
  dsimp only
  rw [byScan_of hsc hb hel]
  simp only [↓reduceIte]
  unfold setAddByScan
  refine wpAny_bind ?_
  refine wpAny_bind (wpAny_rule ?_)
  refine wpAny_bind (wpAny_setScan_of hkey ho hd hf hel ?_)
  cases hfi : List.findIdx? (fun e => (strKind prog w).is k e.2) es.toList with
  | some j =>
    dsimp only
    obtain ⟨hj, pj, _⟩ := List.findIdx?_eq_some_iff_getElem.mp hfi
    have hk : k ∈ ks := pm.mem_iff.mp ((txe_mem (prog := prog) g k).2 ⟨es.toList[j], List.getElem_mem hj, pj⟩)
    refine wpAny_pure (wpAny_pure ?_)
    exact hQ _ s.heap (Heap.SameBut.refl a s.heap) (by rw [if_pos hk]; exact ⟨⟨o, es, ep, t, ho, hex, hd, g, pm, hb, hf, hr, hl⟩, nd⟩)
  | none =>
    dsimp only
    have hnk : k ∉ ks := fun z => by
      obtain ⟨e, he, q⟩ := (txe_mem (prog := prog) g k).1 (pm.mem_iff.mpr z)
      have c := List.findIdx?_eq_none_iff.mp hfi e he
      rw [q] at c
      cases c
    rw [if_neg hnk] at hQ
    have hgw : ∀ (b : Bool) {s₁ : Shared} {Q' : Unit → Shared → Prop}, Q' () s₁ → wpAny (model prog w) A (match b with | true => rule "set.scan.the-table-gave-way" | false => pure ()) Q' E s₁ :=
      fun b s₁ Q' q => by cases b <;> first | exact wpAny_pure q | exact wpAny_rule q
    have z1 := layNew_perm t es ((strKind prog w).hash k) (.str k tk)
    have z2 := layNew_fits t es ((strKind prog w).hash k) (.str k tk)
    have z3 := layNew_ris t es ((strKind prog w).hash k) (.str k tk) hr
    have z4 := layNew_led t es ((strKind prog w).hash k) (.str k tk)
    generalize layNew t es ((strKind prog w).hash k) (.str k tk) = Z at z1 z2 z3 z4 ⊢
    obtain ⟨es1, t1, wd, gave⟩ := Z
    dsimp only at z1 z2 z3 z4 ⊢
    rw [Array.toList_push] at z1
    have pc : es1.toList.Perm (((strKind prog w).hash k, Value.str k tk) :: es.toList) := z1.trans (List.perm_append_singleton _ _)
    have pk : (es1.toList.map txO).Perm (k :: ks) := (pc.map txO).trans (pm.cons k)
    have g1 : ∀ e ∈ es1.toList, TxE w e := fun e he => by
      rcases List.mem_cons.mp (pc.mem_iff.mp he) with z | z
      · exact ⟨k, tk, z⟩
      · exact g e z
    have nd1 : (k :: ks).Nodup := List.nodup_cons.mpr ⟨hnk, nd⟩
    have hb1 : es1.size < scanBound := by
      have e1 := pk.length_eq
      rw [List.length_map, Array.length_toList, List.length_cons] at e1
      omega
    have hled : w.params.followText "set-order" = true ∨ t1.led = true := hl.imp id fun z => by rw [z4]; exact z
    refine wpAny_bind (hgw _ ?_)
    split
    · refine wpAny_bind ?_
      rw [hashByValue_scannable 8 hsc]
      refine wpAny_pure ?_
      refine storeT ?_ ho hex hd g1 pk nd1 hb1 ?_ ?_ ?_ ?_
      · intro b s₁ Q' q; cases b <;> first | exact wpAny_pure q | exact wpAny_rule q
      · first | (split <;> first | exact z2 | exact SetTable.fits_plain_off z2) | exact z2
      · first | (split <;> exact z3) | exact z3
      · first | (split <;> exact hled) | exact hled
      · intro h' sb r; dsimp only; exact wpAny_pure (hQ true h' sb r)
    · refine wpAny_bind (wpAny_pure ?_)
      simp only [↓reduceIte]
      refine storeT ?_ ho hex hd g1 pk nd1 hb1 z2 z3 hled ?_
      · intro b s₁ Q' q; cases b <;> first | exact wpAny_pure q | exact wpAny_rule q
      · intro h' sb r; dsimp only; exact wpAny_pure (hQ true h' sb r)
def sg1 (c : Nat) : Str := ⟨#[c]⟩
def insT (ks : List Str) (cs : List Nat) : List Str := cs.foldl (fun ks c => if sg1 c ∈ ks then ks else sg1 c :: ks) ks
theorem insT_len : ∀ (cs : List Nat) (ks : List Str), (insT ks cs).length ≤ ks.length + cs.length
  | [], ks => Nat.le_refl _
  | c :: cs, ks => by
    show (insT (if sg1 c ∈ ks then ks else sg1 c :: ks) cs).length ≤ _
    refine Nat.le_trans (insT_len cs _) ?_
    split
    · simp
    · rw [List.length_cons, List.length_cons]; omega
theorem TxR.at {h h' : Heap} (R : TxR w h a ks) (k : ∀ o, h.get? a = some o → h'.get? a = some o) : TxR w h' a ks := by
  obtain ⟨⟨o, es, ep, t, ho, r⟩, nd⟩ := R
  exact ⟨⟨o, es, ep, t, k o ho, r⟩, nd⟩
theorem updT {R : Result → Shared → Prop} {I : Addr} {fp wr : List Addr} {n : Nat} {x : Str} {St : Nat → Heap → Prop} (W : Walks prog w A.in1 I fp wr n (SignAt x) St) (hn : n = x.cps.size) (haf : a ∉ fp) (hx : x.cps.size + 1 < scanBound) :
    ∀ (m i : Nat) (ks : List Str) (s : Shared), n - i = m → i ≤ n → ks.length ≤ i → St i s.heap → TxR w s.heap a ks →
      (∀ h' tk, (∀ b o, b ∉ a :: wr → s.heap.get? b = some o → h'.get? b = some o) → TxR w h' a (insT ks (x.cps.toList.drop i)) → R (.ok (.ret .none)) { s with heap := h', toks := tk }) →
      codeAny (model prog w) A (.builtin "set.update.loop" ⟨[.ref a, .ref I], []⟩) R s := by
  have haw : a ∉ wr := fun h => haf (W.sub _ h)
  intro m
  induction m with
  | zero =>
    intro i ks s hm hi hk hst hS hR
    have hin : i = n := by omega
    refine codeAny_builtin PyProof.Rows.F.entry_set_update_loop ?_
    rw [Around.under_plainId PyProof.Rows.F.plain_set_update_loop _]
    show wpAny _ A.in1 (pyNext (.ref I) >>= _) _ _ s
    refine wpAny_bind (W.done s _ _ (by rw [← hin]; exact hst) fun h' tk hk' => ?_)
    have := hR h' tk (fun b o hb e => hk' b o (fun z => hb (List.mem_cons_of_mem _ z)) e) (by
      rw [List.drop_of_length_le (by rw [hin, hn]; simp)]
      exact hS.at fun o e => hk' a o haw e)
    show wpAny _ A.in1 (ret Value.none) _ _ _
    exact wpAny_pure this
  | succ m ih =>
    intro i ks s hm hi hk hst hS hR
    have hlt : i < n := by omega
    refine codeAny_builtin PyProof.Rows.F.entry_set_update_loop ?_
    rw [Around.under_plainId PyProof.Rows.F.plain_set_update_loop _]
    show wpAny _ A.in1 (pyNext (.ref I) >>= _) _ _ s
    refine wpAny_bind (W.item i s _ _ hlt hst fun v h' tk hP hst' hk' => ?_)
    obtain ⟨c, t, hc, rfl⟩ := hP
    have hd : x.cps.toList.drop i = c :: x.cps.toList.drop (i + 1) := by
      have hc' : x.cps.toList[i]? = some c := by rw [Array.getElem?_toList]; exact hc
      obtain ⟨q1, q2⟩ := List.getElem?_eq_some_iff.mp hc'
      rw [List.drop_eq_getElem_cons q1, q2]
    show wpAny _ A.in1 (holding [Value.str ⟨#[c]⟩ t] (setAdd a (.str ⟨#[c]⟩ t)) >>= _) _ _ _
    refine wpAny_bind (wpAny_holding ?_)
    unfold setAdd
    refine wpAny_holding ?_
    refine wpAny_bind ((strKind prog w).pyHash (k := sg1 c) (strKind_is prog w _ t) ?_)
    refine addTs (k := sg1 c) (s := { s with heap := h', toks := tk + 1 }) (hS.at fun o e => hk' a o haw e) (by omega) fun b h2 sb S2 => ?_
    have hst2 : St (i + 1) h2 := W.frame _ _ _ hst' fun b hb o e => (sb.2 b (fun z => haf (by rw [← z]; exact hb))).trans e
    refine wpAny_pure ⟨plainId_quiet PyProof.Rows.F.plain_set_update_loop _, ih (i + 1) _ { s with heap := h2, toks := tk + 1 } (by omega) hlt ?_ hst2 S2 fun h3 tk3 hk3 S3 => ?_⟩
    · split
      · omega
      · rw [List.length_cons]; omega
    · refine hR h3 tk3 (fun b o hb e => hk3 b o hb ?_) (by rw [hd]; exact S3)
      exact (sb.2 b (fun z => hb (by rw [z]; exact List.mem_cons_self))).trans (hk' b o (fun z => hb (List.mem_cons_of_mem _ z)) e)
theorem freshT {h : Heap} (ho : h.get? a = some { cls := .type "set", dict := none, data := .set #[] 0 (.fresh 0 0 (!w.params.followText "set-order")) }) : TxR w h a [] :=
  ⟨⟨_, #[], 0, _, ho, ⟨rfl, rfl, rfl⟩, rfl, fun e he => (by cases he), .nil, by show 0 < scanBound; unfold scanBound; omega, rfl, List.Pairwise.nil, by
    show _ ∨ (!w.params.followText "set-order") = true
    cases w.params.followText "set-order"
    · exact .inr rfl
    · exact .inl rfl⟩, List.nodup_nil⟩
theorem call_setT {x : Str} {t : Tok} {Q : Value → Shared → Prop} (hh : A.handled = none) (hx : x.cps.size + 1 < scanBound)
    (h : ∀ (h' : Heap) (tk : Nat), TxR w h' s.heap.objs.size (insT [] x.cps.toList) → (∀ b o, s.heap.get? b = some o → h'.get? b = some o) → Q (.ref s.heap.objs.size) { s with heap := h', toks := tk }) : wpAny (model prog w) A (call (.type "set") [.str x t]) Q E s := by
  obtain ⟨c, tl, hmro⟩ := PySem.F.called_set.mro
  have hmade := PySem.F.called_set.made
  have hsub := PySem.F.called_set.sub
  refine wpAny_call (codeAny_of_tree ?_)
  show wpAny _ _ (callAny (.type "set") _) _ _ _
  refine wpAny_pure ⟨Code.quiet_builtin _ (by decide +kernel), codeAny_builtin PySem.F.entry_type_call ?_⟩
  rw [Around.under_plain (weight_type_call_type "set" [.str x t] []) rfl]
  have h1 := PySem.F.called_set.notType
  have h2 := PySem.F.called_set.canCreate
  have hct := PySem.F.typeCall_set_1 (.str x t)
  repeat (any_goals (first | assumption | wp_step))
  refine codeAny_mono (code_set_led1 (.str x t) (E := E) (Q₁ := fun obj s₁ => obj = .ref s.heap.objs.size ∧ s₁ = { s with heap := s.heap.push { cls := .type "set", dict := none, data := .set #[] 0 (.fresh 0 0 (!w.params.followText "set-order")) } }) ⟨rfl, rfl⟩) fun r s₁ hr => ?_
  cases r with
  | error e => exact hr
  | ok fl =>
    cases fl with
    | ret obj =>
      obtain ⟨rfl, rfl⟩ := hr
      have hS : (s.heap.push { cls := .type "set", dict := none, data := .set #[] 0 (.fresh 0 0 (!w.params.followText "set-order")) }).get? s.heap.objs.size = some { cls := .type "set", dict := none, data := .set #[] 0 (.fresh 0 0 (!w.params.followText "set-order")) } := Heap.get?_push_size _ rfl
      have hT : Shared.TypeIs { s with heap := s.heap.push { cls := .type "set", dict := none, data := .set #[] 0 (.fresh 0 0 (!w.params.followText "set-order")) } } (.ref s.heap.objs.size) "set" := ⟨_, hS, rfl⟩
      have hli := PySem.F.called_set.init.lookup
      have hbi := PySem.F.called_set.init.bind (.ref s.heap.objs.size)
      repeat (any_goals (first | assumption | wp_step))
      refine codeAny_mono (codeAny_call_builtin (R := wants (fun r s₂ => r = .none ∧ ∃ h' tk, s₂ = { s with heap := h', toks := tk } ∧ TxR w h' s.heap.objs.size (insT [] x.cps.toList) ∧
          (∀ b o, s.heap.get? b = some o → h'.get? b = some o)) E) PySem.F.called_set.init.plain PySem.F.entry_set_init (check_set_init_1 hT ?_)) fun r₂ s₂ hr₂ => ?_
      · have hsls : isSubtype (.type "str") (.type "set") = pure false := by rw [isSubtype_type]; kernel_rfl
        have hslf : isSubtype (.type "str") (.type "frozenset") = pure false := by rw [isSubtype_type]; kernel_rfl
        unfold Builtin.«set.__init__» noKeywords Builtin.Frozenset.updateFrom
        generalize hPI : pyIter = PI
        wp_walk
        subst hPI
        refine wpAny_pyIter_str fun o St hW hst => ?_
        refine wpAny_bind (wpAny_runValue ?_)
        have hz : (s.heap.push { cls := .type "set", dict := none, data := .set #[] 0 (.fresh 0 0 (!w.params.followText "set-order")) }).objs.size = s.heap.objs.size + 1 := Heap.size_push ..
        refine updT (a := s.heap.objs.size) (hW _ (by simp [hh])) rfl (by
          rw [List.mem_singleton, Heap.size_push]
          exact Nat.ne_of_lt (Nat.lt_succ_self _)) hx (x.cps.size - 0) 0 [] _ (by omega) (Nat.zero_le _) (Nat.zero_le _) hst (freshT (Heap.get?_push_of_some _ hS)) fun h' tk hk S2 => ?_
        show wpAny _ _ _ _ _ _
        refine wpAny_pure ?_
        show wpAny _ _ (ret Value.none) _ _ _
        refine wpAny_pure ⟨rfl, h', tk, rfl, S2, fun b o hb => ?_⟩
        have hlt : b < s.heap.objs.size := Heap.lt_size hb
        refine hk b o ?_ (Heap.get?_push_of_some _ (Heap.get?_push_of_some _ hb))
        simp only [List.mem_cons, List.mem_singleton, List.not_mem_nil, or_false, not_or]
        refine ⟨Nat.ne_of_lt hlt, ?_⟩
        rw [Heap.size_push]
        exact Nat.ne_of_lt (Nat.lt_succ_of_lt hlt)
      · cases r₂ with
        | error e => exact hr₂
        | ok fl₂ =>
          cases fl₂ with
          | ret r =>
            obtain ⟨rfl, h', tk, rfl, hS', hk'⟩ := hr₂
            repeat (any_goals (first | assumption | wp_step))
            exact h _ _ hS' hk'
          | _ => exact hr₂.elim
    | _ => exact hr.elim
end
def vO : Value → Str
  | .str k _ => k
  | _ => Str.empty
theorem strs_vO : ∀ {vs : List Value}, (∀ v ∈ vs, ∃ k t, v = Value.str k t) → StrsAre vs (vs.map vO)
  | [], _ => .nil
  | v :: vs, h => by
    obtain ⟨k, t, rfl⟩ := h v (List.mem_cons_self ..)
    exact .cons k t (strs_vO fun u hu => h u (List.mem_cons_of_mem _ hu))
section
variable {prog : Program} {w : World} {A : Around} {E : Value → Shared → Prop} {s : Shared} {a : Addr} {ks : List Str}
theorem call_sortT {Q : Value → Shared → Prop} (R : TxR w s.heap a ks) (hh : A.handled = none) (h64 : ks.length < 64)
    (hQ : ∀ s' p (out : Array Value) (c : Nat), (∀ b o, s.heap.get? b = some o → s'.heap.get? b = some o) → s'.gens = s.gens → s'.os = s.os → s.heap.objs.size ≤ p → s'.heap.get? p = some (seqObj "list" out c) → StrsAre out.toList (srtS ks) → Q (.ref p) s') :
    wpAny (model prog w) A (call (.builtin "sorted") [.ref a]) Q E s := by
  obtain ⟨⟨o, es, ep, t, ho, hex, hd, g, pm, hb, hf, hr, hl⟩, nd⟩ := R
  refine Calls.call_function_entry kind_sorted plain_sorted entry_sorted (args_sorted1 _) ?_
  unfold Builtin.«sorted»
  refine wpAny_bind (m := checkCount "sorted" 1 1 _) (wpAny_pure ?_)
  refine wpAny_bind (collect_set (A := A.in1) hh ⟨o, ho, hex.1, hd⟩ hf hb hr hl fun s1 vs k1 hz g1 o1 pv => ?_)
  have hS : StrsAre vs (vs.map vO) := strs_vO fun v hv => by
    obtain ⟨e, he, rfl⟩ := List.mem_map.mp (pv.mem_iff.mp hv)
    obtain ⟨k, tk, rfl⟩ := g e he
    exact ⟨k, tk, rfl⟩
  have pk : (vs.map vO).Perm ks := by
    refine (pv.map vO).trans ?_
    rw [List.map_map]
    exact pm
  have hvl : vs.length = ks.length := by rw [← pk.length_eq, List.length_map]
  refine wpAny_bind (wpAny_newList ?_ (by rw [hvl, sizeLine_eq]; omega))
  have hoL : (s1.heap.push (seqObj "list" vs.toArray 0)).get? s1.heap.objs.size = some (seqObj "list" vs.toArray 0) := Heap.get?_push_size _ rfl
  refine wpAny_bind (wpAny_holding (wpAny_call_entry slot_list_sort ⟨_, hoL, rfl⟩ entry_list_sort (list_sort_treeK strKind_oneLt hoL hS.keysOf (fun v₁ v₂ rest e => keyKind_strs (by rw [← e]; exact hS)) (by rw [hvl]; exact h64) fun st' hp hs => ⟨_, rfl, ?_⟩) (args_list_sort _)))
  obtain ⟨ss', z1, z2, z3⟩ := sorted_out_str hS hp hs
  obtain ⟨c, hc⟩ := sortedHeap_at (vs := vs) (out := (arrOf st').map (·.2)) hoL
  have e : ss' = srtS ks := srt_eq (z2.trans pk) z3
  subst e
  refine wpAny_pure ⟨_, rfl, hQ _ s1.heap.objs.size _ c (fun b u e => ?_) g1 o1 hz hc z1⟩
  have q := k1 b u e
  have hlt := Heap.lt_size q
  show (sortedHeap (s1.heap.push (seqObj "list" vs.toArray 0)) s1.heap.objs.size vs _).get? b = some u
  rw [sortedHeap_old (Nat.ne_of_lt hlt) (by rw [size_push']; exact Nat.lt_succ_of_lt hlt)]
  exact Heap.get?_push_of_some _ q
end
section
variable {X : Cx} {a0 : Addr}
def sstL (t : Str) : List Str := srtS (insT [] t.cps.toList)
def tSst (X : Cx) (ta : TE) : TE := fun σ H Q => ta σ H fun x H1 => ∃ t : Str, x = V.str t ∧ t.cps.size < 60 ∧ ∀ p, H1 p = none → Q (.ref p) (upd H1 p (.lst ((sstL t).map V.str)))
theorem srt_len (xs : List Str) : (srtS xs).length = xs.length := List.length_mergeSort xs
theorem pe_sst {e : Expr} {ta : TE} {p p2 q pos : Pos} (hc : X.calm = true) (hg : Gl X "sorted") (hm : X.mg "sorted" = none) (hg2 : Gl X "set") (hm2 : X.mg "set" = none) (ha : PE X e ta)
    (na : starEach [e] X.env = (false, eval e X.env) :: starEach [] X.env := by rfl) : PE X (.Call (.Name "sorted" p) [.Call (.Name "set" p2) [e] [] q] [] pos) (tSst X ta) := by
  refine ⟨fun pins s σ H Q I h => ?_⟩
  refine Call_ (ld_blt I hg hm (by rfl) ?_)
  refine PyProof.Rows.callWith_builtin1 (PyProof.Rows.args_cons ?_ rfl) rfl rfl
  refine Call_ (ld_blt I hg2 hm2 PyProof.Rows.boot_set ?_)
  refine PyProof.Rows.callWith_type1 (PyProof.Rows.args_cons (thn (ha.run pins s σ H _ I h) fun v s1 ⟨x, H1, I1, r1, q1⟩ => PyProof.Rows.args_nil ?_) na) na rfl
  obtain ⟨t, rfl, hl, q1⟩ := q1
  obtain ⟨tk, rfl⟩ := r1
  have hlen : (insT [] t.cps.toList).length ≤ t.cps.size := by
    have := insT_len t.cps.toList []
    rw [Array.length_toList] at this
    simpa using this
  refine call_setT (I1.ok.hd hc) (by unfold scanBound; omega) fun h' tk2 R hk => ?_
  refine PyProof.Rows.args_nil ?_
  have I2 : Inv X pins σ H1 { s1 with heap := h', toks := tk2 } := I1.kept fun b o e => hk b o e
  refine call_sortT (s := { s1 with heap := h', toks := tk2 }) R (I2.ok.hd hc) (by omega) fun s' p out c k g o hp hg hS => ?_
  have hlen2 : ((sstL t).map V.str).length ≤ sizeLine := by rw [List.length_map]; unfold sstL; rw [srt_len, sizeLine_eq]; omega
  have hn : H1 p = none := I2.hok.fresh hp
  have J : Inv X pins σ (upd H1 p (.lst ((sstL t).map V.str))) { s1 with heap := s'.heap, gens := s'.gens, drawn := s'.drawn, toks := s'.toks } :=
    L2.Inv.call (s := { s1 with heap := h', toks := tk2 }) I2 (ch := []) (Un.laid k hp hn) (I2.hok.laid k hp ⟨hlen2, out.toList, c, vals_of_strs hS, hg⟩) (by rw [g]; exact I2.bare) (fun _ z => nomatch z)
  have e : s' = { s1 with heap := s'.heap, gens := s'.gens, drawn := s'.drawn, toks := s'.toks } := by
    cases s'
    cases s1
    cases o
    rfl
  rw [e]
  exact ⟨.ref p, _, J, rfl, q1 p hn⟩
def sstF (f : Fn) : Fn := fun env => (f env).bind fun x => match x.1 with
  | .str t => if t.cps.size < 60 then some (.list ((sstL t).map .str), x.2) else none
  | _ => none
theorem so_sst {e : Expr} {f : Fn} {p p2 q pos : Pos} (hc : X.calm = true) (hg : Gl X "sorted") (hm : X.mg "sorted" = none) (hg2 : Gl X "set") (hm2 : X.mg "set" = none) (ha : SE X a0 e f)
    (na : starEach [e] X.env = (false, eval e X.env) :: starEach [] X.env := by rfl) : SO X a0 (.Call (.Name "sorted" p) [.Call (.Name "set" p2) [e] [] q] [] pos) (sstF f) := by
  refine ⟨PEimp (pe_sst hc hg hm hg2 hm2 ha.run na) fun σ H Q ⟨F, env, R, d, env', q, k⟩ => ?_⟩
  obtain ⟨⟨d1, env1⟩, q1, q⟩ := Option.bind_eq_some_iff.mp q
  dsimp only at q
  split at q
  · rename_i t
    split at q
    · rename_i hl
      cases q
      refine ⟨F, env, R, _, env', q1, fun v F1 H1 S1 R1 z => ⟨t, Br.str (.inl z), hl, fun q hq => ?_⟩⟩
      have G : Grow F1 H1 F1 (upd H1 q (.lst ((sstL t).map V.str))) := Grow.new1 hq
      exact k q F1 _ (S1.trans G.stp) (G.rel R1) (S1.new_of hq) (fun z => R1.fd q z hq) (fun w => (R1.owned w).2.2 hq) (.lst upd_same (fz_strs _))
    · cases q
  · cases q
end
end Ew

/-! EwRec: a def that calls itself, by how deep. -/
namespace Ew
open PySem PySem.Spec PyProof.Rows L2
section
variable {P : Program} {w : World} {K : PySem.W.Frag} {mg : Str → Option Value} {base : Heap} {f : Addr} {fd : FuncData} {ps : List Str} {fr : Bool} {n : Nat}
theorem none_m (j : Nat) : FnG P w K mg base j f fd ps (spM K fr n fun _ _ => none) :=
  ⟨(fun vs H Q E h => by obtain ⟨_, _, _, _, _, _, _, _, _, _, _, _, _, e, _⟩ := h; cases e), fun A out s H ar us vs Q E _ _ _ _ h => by obtain ⟨_, _, _, _, _, _, _, _, _, _, _, _, _, e, _⟩ := h; cases e⟩
theorem none_p (j : Nat) : FnG P w K mg base j f fd ps (spP K fr n fun _ => none) :=
  ⟨(fun vs H Q E h => by obtain ⟨_, _, _, _, _, _, e, _⟩ := h; cases e), fun A out s H ar us vs Q E _ _ _ _ h => by obtain ⟨_, _, _, _, _, _, e, _⟩ := h; cases e⟩
end
end Ew

/-! PlCore: what the semantic functions come to, by conditions. -/
namespace Ew
open PySem L2

/-- an answer that is there -/
def is {α : Type} (o : Option α) (Q : α → Prop) : Prop := ∃ a, o = some a ∧ Q a
theorem is_some {α : Type} {a : α} {Q : α → Prop} : is (some a) Q ↔ Q a := ⟨fun ⟨b, e, q⟩ => by cases e; exact q, fun q => ⟨a, rfl, q⟩⟩
theorem is_none {α : Type} {Q : α → Prop} : is (none : Option α) Q ↔ False := ⟨fun ⟨_, e, _⟩ => (nomatch e), False.elim⟩
theorem is_bind {α β : Type} {o : Option α} {f : α → Option β} {Q : β → Prop} : is (o.bind f) Q ↔ is o fun a => is (f a) Q := by
  cases o with
  | none => exact ⟨fun ⟨_, e, _⟩ => (nomatch e), fun ⟨_, e, _⟩ => (nomatch e)⟩
  | some a => rw [is_some]; exact Iff.rfl
theorem is_map {α β : Type} {o : Option α} {f : α → β} {Q : β → Prop} : is (o.map f) Q ↔ is o fun a => Q (f a) := by
  cases o with
  | none => exact ⟨fun ⟨_, e, _⟩ => (nomatch e), fun ⟨_, e, _⟩ => (nomatch e)⟩
  | some a => rw [is_some]; exact is_some
theorem is_congr {α : Type} {o : Option α} {P Q : α → Prop} (h : ∀ a, P a ↔ Q a) : is o P ↔ is o Q := ⟨fun ⟨a, e, p⟩ => ⟨a, e, (h a).1 p⟩, fun ⟨a, e, p⟩ => ⟨a, e, (h a).2 p⟩⟩
theorem is_if {α : Type} {c : Prop} [Decidable c] {a : Option α} {Q : α → Prop} : is (if c then a else none) Q ↔ c ∧ is a Q := by
  by_cases h : c
  · rw [if_pos h]; exact ⟨fun z => ⟨h, z⟩, fun z => z.2⟩
  · rw [if_neg h, is_none]; exact ⟨False.elim, fun z => h z.1⟩
theorem is_b {α : Type} {c : Prop} [Decidable c] {a b : Option α} {Q : α → Prop} : is (if c then a else b) Q ↔ if c then is a Q else is b Q := by
  by_cases h : c
  · rw [if_pos h, if_pos h]
  · rw [if_neg h, if_neg h]
abbrev wE (f : Fn) (env : En) (Q : D → En → Prop) : Prop := is (f env) fun r => Q r.1 r.2
def wB (f : Fn) (env : En) (Q : Bool → En → Prop) : Prop := is (f env) fun r => is (match r.1 with | .bool b => some b | _ => none) fun b => Q b r.2
abbrev wT (f : Fb) (env : En) (Q : Bool → En → Prop) : Prop := is (f env) fun r => Q r.1 r.2
abbrev wA (f : Fa) (env : En) (Q : List D → En → Prop) : Prop := is (f env) fun r => Q r.1 r.2
abbrev wO (f : Fo) (env : En) (Q : Option Int → En → Prop) : Prop := is (f env) fun r => Q r.1 r.2
abbrev wS (f : Fs) (env : En) (Q : Fl → En → Prop) : Prop := is (f env) fun r => Q r.1 r.2
abbrev wG (g : Fg) (d : D) (env : En) (Q : En → Prop) : Prop := is (g d env) Q
section
variable {α : Type} {env : En}
/-! each combinator, under «is» -/
theorem w_cst {d : D} {Q : D × En → Prop} : is (cst d env) Q ↔ Q (d, env) := is_some
theorem w_vf {i : Nat} {Q : D × En → Prop} : is (vf i env) Q ↔ is (env[i]?) fun s => match s with
    | .fz d => Q (d, env)
    | .ow d => Q (d, env.set i (.fz d))
    | _ => False := by
  unfold vf
  cases h : env[i]? with
  | none => simp only [is_none]
  | some s => cases s <;> simp only [is_some, is_none]
theorem w_mvf {i : Nat} {Q : D × En → Prop} : is (mvf i env) Q ↔ is (env[i]?) fun s => match s with
    | .ow d => Q (d, env.set i .un)
    | _ => False := by
  unfold mvf
  cases h : env[i]? with
  | none => simp only [is_none]
  | some s => cases s <;> simp only [is_some, is_none]
theorem w_nilA {Q : List D × En → Prop} : is (nilA env) Q ↔ Q ([], env) := is_some
theorem w_consA {f : Fn} {g : Fa} {Q : List D × En → Prop} : is (consA f g env) Q ↔ is (f env) fun x => is (g x.2) fun y => Q (x.1 :: y.1, y.2) := by simp only [consA, is_bind, is_some]
theorem w_consV {i : Nat} {g : Fa} {Q : List D × En → Prop} : is (consV i g env) Q ↔ is (look env i) fun _ => is (g env) fun y => is (look y.2 i) fun d => Q (d :: y.1, y.2) := by simp only [consV, is_bind, is_some]
def ap2 (g : G2) : List D → Option D
  | [a, b] => g a b
  | _ => none
theorem w_op2 {g : G2} {f : Fa} {Q : D × En → Prop} : is (op2 g f env) Q ↔ is (f env) fun x => is (ap2 g x.1) fun d => Q (d, x.2) := by
  unfold op2
  rw [is_bind]
  refine is_congr fun x => ?_
  obtain ⟨ds, e⟩ := x
  match ds with
  | [] => simp only [ap2, is_none]
  | [_] => simp only [ap2, is_none]
  | [a, b] => simp only [ap2, is_bind, is_some]
  | _ :: _ :: _ :: _ => simp only [ap2, is_none]
theorem w_opN {g : GN} {f : Fa} {Q : D × En → Prop} : is (opN g f env) Q ↔ is (f env) fun x => is (g x.1) fun d => Q (d, x.2) := by simp only [opN, is_bind, is_map]
def bo : D → Option Bool
  | .bool b => some b
  | _ => none
theorem w_asB {f : Fn} {Q : Bool × En → Prop} : is (asB f env) Q ↔ is (f env) fun x => is (bo x.1) fun b => Q (b, x.2) := by
  unfold asB
  rw [is_bind]
  refine is_congr fun x => ?_
  obtain ⟨d, e⟩ := x
  cases d <;> simp only [bo, is_some, is_none]
theorem w_andT {f g : Fb} {Q : Bool × En → Prop} : is (andT f g env) Q ↔ is (f env) fun x => if x.1 = true then is (g x.2) Q else Q (false, x.2) := by simp only [andT, is_bind, is_b, is_some]
theorem w_orT {f g : Fb} {Q : Bool × En → Prop} : is (orT f g env) Q ↔ is (f env) fun x => if x.1 = true then Q (true, x.2) else is (g x.2) Q := by simp only [orT, is_bind, is_b, is_some]
theorem w_notT {f : Fb} {Q : Bool × En → Prop} : is (notT f env) Q ↔ is (f env) fun x => Q (!x.1, x.2) := by simp only [notT, is_bind, is_some]
theorem w_ifE {c : Fb} {f g : Fn} {Q : D × En → Prop} : is (ifE c f g env) Q ↔ is (c env) fun x => if x.1 = true then is (f x.2) Q else is (g x.2) Q := by simp only [ifE, is_bind, is_b]
theorem w_ofB {f : Fb} {Q : D × En → Prop} : is (ofB f env) Q ↔ is (f env) fun x => Q (.bool x.1, x.2) := by simp only [ofB, is_bind, is_some]
theorem w_andV {f g : Fn} {Q : D × En → Prop} : is (andV f g env) Q ↔ is (f env) fun x => is (bo x.1) fun b => if b = true then is (g x.2) Q else Q (.bool false, x.2) := by
  unfold andV
  rw [is_bind]
  refine is_congr fun x => ?_
  obtain ⟨d, e⟩ := x
  cases d <;> simp only [bo, is_none, is_some]
  rename_i b
  cases b
  · rw [if_neg Bool.false_ne_true]; exact is_some
  · rw [if_pos rfl]
theorem w_orV {f g : Fn} {Q : D × En → Prop} : is (orV f g env) Q ↔ is (f env) fun x => is (bo x.1) fun b => if b = true then Q (.bool true, x.2) else is (g x.2) Q := by
  unfold orV
  rw [is_bind]
  refine is_congr fun x => ?_
  obtain ⟨d, e⟩ := x
  cases d <;> simp only [bo, is_none, is_some]
  rename_i b
  cases b
  · rw [if_neg Bool.false_ne_true]
  · rw [if_pos rfl]; exact is_some
theorem w_notV {f : Fn} {Q : D × En → Prop} : is (notV f env) Q ↔ is (f env) fun x => is (bo x.1) fun b => Q (.bool (!b), x.2) := by
  unfold notV
  rw [is_bind]
  refine is_congr fun x => ?_
  obtain ⟨d, e⟩ := x
  cases d <;> simp only [bo, is_none, is_some]
theorem w_tupD {f : Fa} {Q : D × En → Prop} : is (tupD f env) Q ↔ is (f env) fun x => x.1.length ≤ 1000 ∧ Q (.tuple x.1, x.2) := by simp only [tupD, is_bind, is_if, is_some]
theorem w_lstD {f : Fa} {Q : D × En → Prop} : is (lstD f env) Q ↔ is (f env) fun x => x.1.length ≤ 1000 ∧ Q (.list x.1, x.2) := by simp only [lstD, is_bind, is_if, is_some]
theorem w_isiF {t : Ty} {f : Fn} {Q : D × En → Prop} : is (isiF t f env) Q ↔ is (f env) fun x => Q (.bool (isA t x.1), x.2) := by simp only [isiF, is_bind, is_some]
theorem w_un1 {g : D → Option D} {f : Fn} {Q : D × En → Prop} : is (un1 g f env) Q ↔ is (f env) fun x => is (g x.1) fun d => Q (d, x.2) := by simp only [un1, is_bind, is_map]
def io : D → Option Int
  | .int i => some i
  | _ => none
theorem w_noP {Q : Option Int × En → Prop} : is (noP env) Q ↔ Q (none, env) := is_some
theorem w_atP {f : Fn} {Q : Option Int × En → Prop} : is (atP f env) Q ↔ is (f env) fun x => is (io x.1) fun i => Q (some i, x.2) := by
  unfold atP
  rw [is_bind]
  refine is_congr fun x => ?_
  obtain ⟨d, e⟩ := x
  cases d <;> simp only [io, is_none, is_some]
theorem w_slF {g : G3} {f : Fn} {fl fh : Fo} {Q : D × En → Prop} : is (slF g f fl fh env) Q ↔ is (f env) fun x => is (fl x.2) fun l => is (fh l.2) fun h => is (g x.1 l.1 h.1) fun d => Q (d, h.2) := by simp only [slF, is_bind, is_map]
theorem w_metF {ok : D → Bool} {g : GM} {f : Fn} {fa : Fa} {Q : D × En → Prop} : is (metF ok g f fa env) Q ↔ is (f env) fun x => ok x.1 = true ∧ is (fa x.2) fun y => is (g x.1 y.1) fun d => Q (d, y.2) := by simp only [metF, is_bind, is_if, is_map]
theorem w_callP {n : Nat} {G : List D → Option D} {f : Fa} {Q : D × En → Prop} : is (callP n G f env) Q ↔ is (f env) fun x => x.1.length = n ∧ is (G x.1) fun d => Q (d, x.2) := by simp only [callP, is_bind, is_if, is_map]
theorem w_callK {n m : Nat} {pm : List D → List D} {G : List D → Option D} {f : Fa} {Q : D × En → Prop} : is (callK n m pm G f env) Q ↔ is (f env) fun x => (x.1.length = m ∧ (pm x.1).length = n) ∧ is (G (pm x.1)) fun d => Q (d, x.2) := by simp only [callK, is_bind, is_if, is_map]
theorem w_callM {n i : Nat} {G : D → List D → Option (D × D)} {f : Fa} {Q : D × En → Prop} : is (callM n i G f env) Q ↔ is (look env i) fun _ => is (f env) fun x => x.1.length + 1 = n ∧ is (x.2[i]?) fun s => s.isOw = true ∧ is s.val? fun d0 => is (G d0 x.1) fun r => is (s.redo r.2) fun s' => Q (r.1, x.2.set i s') := by
  simp only [callM, is_bind, is_if, is_map]
theorem w_callN {n : Nat} {G : D → List D → Option (D × D)} {f0 : Fn} {f : Fa} {Q : D × En → Prop} : is (callN n G f0 f env) Q ↔ is (f0 env) fun x0 => is (f x0.2) fun x => x.1.length + 1 = n ∧ is (G x0.1 x.1) fun r => Q (r.1, x.2) := by simp only [callN, is_bind, is_if, is_map]
def okLi : D → Bool
  | .list _ => true
  | _ => false
theorem w_mutF {n i : Nat} {G : D → List D → Option (D × D)} {f : Fa} {Q : D × En → Prop} : is (mutF n i G f env) Q ↔ (is (look env i) fun d => okLi d = true) ∧ is (callM n i G f env) Q := by
  unfold mutF
  cases look env i with
  | none => simp only [is_none, false_and]
  | some d => cases d <;> simp only [is_some, is_none, okLi, false_and, true_and, Bool.false_eq_true]
theorem w_chF {g g' : G2} {fa fb fc : Fn} {Q : Bool × En → Prop} : is (chF g g' fa fb fc env) Q ↔ is (fa env) fun x => is (fb x.2) fun y => is (g x.1 y.1) fun d => is (bo d) fun b => if b = true then is (fc y.2) fun z => is (g' y.1 z.1) fun d' => is (bo d') fun b' => Q (b', z.2) else Q (false, y.2) := by
  unfold chF
  rw [is_bind]
  refine is_congr fun x => ?_
  rw [is_bind]
  refine is_congr fun y => ?_
  rw [is_bind]
  refine is_congr fun d => ?_
  cases d <;> simp only [bo, is_none, is_some]
  rename_i b
  cases b
  · rw [if_neg Bool.false_ne_true]; exact is_some
  · rw [if_pos rfl, is_bind]
    refine is_congr fun z => ?_
    rw [is_bind]
    refine is_congr fun d' => ?_
    cases d' <;> simp only [bo, is_none, is_some]
/-! statements -/
theorem w_skip {Q : Fl × En → Prop} : is (skipS env) Q ↔ Q (.nx, env) := is_some
theorem w_seq {f g : Fs} {Q : Fl × En → Prop} : is (seqS f g env) Q ↔ is (f env) fun x => match x.1 with
    | .nx => is (g x.2) Q
    | fl => Q (fl, x.2) := by
  unfold seqS
  rw [is_bind]
  refine is_congr fun x => ?_
  obtain ⟨fl, e⟩ := x
  cases fl <;> first | exact Iff.rfl | exact is_some
theorem w_expr {f : Fn} {Q : Fl × En → Prop} : is (exprS f env) Q ↔ is (f env) fun x => Q (.nx, x.2) := by simp only [exprS, is_map]
theorem w_ret {f : Fn} {Q : Fl × En → Prop} : is (retS f env) Q ↔ is (f env) fun x => Q (.rt x.1, x.2) := by simp only [retS, is_map]
theorem w_if {c : Fb} {f g : Fs} {Q : Fl × En → Prop} : is (ifS c f g env) Q ↔ is (c env) fun x => if x.1 = true then is (f x.2) Q else is (g x.2) Q := by simp only [ifS, is_bind, is_b]
theorem w_put {i : Nat} {s : Sl} {Q : En → Prop} : is (put env i s) Q ↔ is (env[i]?) fun t => match t with
    | .mp _ => False
    | _ => Q (env.set i s) := by
  unfold put
  cases h : env[i]? with
  | none => simp only [is_none]
  | some t => cases t <;> simp only [is_some, is_none]
theorem w_setS {i : Nat} {f : Fn} {Q : Fl × En → Prop} : is (setS i f env) Q ↔ is (f env) fun x => is (put x.2 i (.fz x.1)) fun e => Q (.nx, e) := by simp only [setS, is_bind, is_map]
theorem w_setO {i : Nat} {f : Fn} {Q : Fl × En → Prop} : is (setO i f env) Q ↔ is (f env) fun x => is (put x.2 i (.ow x.1)) fun e => Q (.nx, e) := by simp only [setO, is_bind, is_map]
theorem w_asg {f : Fn} {g : Fg} {Q : Fl × En → Prop} : is (asgS f g env) Q ↔ is (f env) fun x => is (g x.1 x.2) fun e => Q (.nx, e) := by simp only [asgS, is_bind, is_map]
theorem w_nameG {i : Nat} {d : D} {Q : En → Prop} : is (nameG i d env) Q ↔ is (put env i (.fz d)) Q := Iff.rfl
def tu : D → Option (List D)
  | .tuple ds => some ds
  | _ => none
theorem w_tupG {n : Nat} {gs : List D → En → Option En} {d : D} {Q : En → Prop} : is (tupG n gs d env) Q ↔ is (tu d) fun ds => ds.length = n ∧ is (gs ds env) Q := by
  unfold tupG
  cases d <;> simp only [tu, is_none, is_some, is_if]
theorem w_consG {g : Fg} {gs : List D → En → Option En} {d : D} {ds : List D} {Q : En → Prop} : is (consG g gs (d :: ds) env) Q ↔ is (g d env) fun e => is (gs ds e) Q := by simp only [consG, is_bind]
theorem w_nilG {Q : En → Prop} : is (nilG [] env) Q ↔ Q env := is_some
theorem w_subG {i : Nat} {f : Fn} {d : D} {Q : En → Prop} : is (subG i f d env) Q ↔ is (look env i) fun _ => is (f env) fun x => is (io x.1) fun k => is (x.2[i]?) fun s => s.isOw = true ∧ is s.val? fun v => match v with
    | .list ds => is (ixN ds.length k) fun j => is (s.redo (.list (ds.set j d))) fun s' => Q (x.2.set i s')
    | _ => False := by
  unfold subG
  rw [is_bind]
  refine is_congr fun _ => ?_
  rw [is_bind]
  refine is_congr fun x => ?_
  obtain ⟨v, e⟩ := x
  cases v <;> simp only [io, is_none, is_some]
  rw [is_bind]
  refine is_congr fun s => ?_
  rw [is_if]
  refine and_congr Iff.rfl ?_
  cases s.val? with
  | none => simp only [is_none]
  | some v => cases v <;> simp only [is_none, is_some, is_bind, is_map]
theorem w_nilM {Q : List Sl × En → Prop} : is (nilM env) Q ↔ Q ([], env) := is_some
theorem w_consMf {f : Fn} {g : Fm} {Q : List Sl × En → Prop} : is (consMf f g env) Q ↔ is (f env) fun x => is (g x.2) fun y => Q (.fz x.1 :: y.1, y.2) := by simp only [consMf, is_bind, is_some]
theorem w_consMo {f : Fn} {g : Fm} {Q : List Sl × En → Prop} : is (consMo f g env) Q ↔ is (f env) fun x => is (g x.2) fun y => Q (.ow x.1 :: y.1, y.2) := by simp only [consMo, is_bind, is_some]
theorem w_parS {is' : List Nat} {f : Fm} {Q : Fl × En → Prop} : is (parS is' f env) Q ↔ is (f env) fun x => is (putL x.2 is' x.1) fun e => Q (.nx, e) := by simp only [parS, is_bind, is_map]
theorem w_putL0 {Q : En → Prop} : is (putL env [] []) Q ↔ Q env := is_some
theorem w_putL {i : Nat} {is' : List Nat} {s : Sl} {ss : List Sl} {Q : En → Prop} : is (putL env (i :: is') (s :: ss)) Q ↔ is (put env i s) fun e => is (putL e is' ss) Q := by simp only [putL, is_bind]
/-! iterables, loops, comprehensions -/
theorem w_itF {f : Fn} {Q : List D × En → Prop} : is (itF f env) Q ↔ is (f env) fun x => is (itemsD x.1) fun ds => Q (ds, x.2) := by simp only [itF, is_bind, is_map]
def on1 : List D → Option D
  | [d] => some d
  | _ => none
def on2 : List D → Option (D × D)
  | [a, b] => some (a, b)
  | _ => none
theorem w_enF {f : Fa} {Q : List D × En → Prop} : is (enF f env) Q ↔ is (f env) fun x => is (on1 x.1) fun d => is (itemsD d) fun ds => Q (enumL 0 ds, x.2) := by
  unfold enF
  rw [is_bind]
  refine is_congr fun x => ?_
  obtain ⟨ds, e⟩ := x
  match ds with
  | [] => simp only [on1, is_none]
  | [_] => simp only [on1, is_map, is_some]
  | _ :: _ :: _ => simp only [on1, is_none]
theorem w_zpF {f : Fa} {Q : List D × En → Prop} : is (zpF f env) Q ↔ is (f env) fun x => is (on2 x.1) fun d => is (itemsD d.1) fun ds => is (itemsD d.2) fun es => Q (zipL ds es, x.2) := by
  unfold zpF
  rw [is_bind]
  refine is_congr fun x => ?_
  obtain ⟨ds, e⟩ := x
  match ds with
  | [] => simp only [on2, is_none]
  | [_] => simp only [on2, is_none]
  | [_, _] => simp only [on2, is_map, is_bind, is_some]
  | _ :: _ :: _ :: _ => simp only [on2, is_none]
theorem w_rg1 {f : Fa} {Q : List D × En → Prop} : is (rg1 f env) Q ↔ is (f env) fun x => is (on1 x.1) fun d => is (io d) fun j => okR j = true ∧ Q (rngL 0 j.toNat, x.2) := by
  unfold rg1
  rw [is_bind]
  refine is_congr fun x => ?_
  obtain ⟨ds, e⟩ := x
  match ds with
  | [] => simp only [on1, is_none]
  | [d] => cases d <;> simp only [on1, io, is_none, is_some, is_if]
  | _ :: _ :: _ => simp only [on1, is_none]
theorem w_rg2 {f : Fa} {Q : List D × En → Prop} : is (rg2 f env) Q ↔ is (f env) fun x => is (on2 x.1) fun d => is (io d.1) fun i => is (io d.2) fun j => (okR i && okR j) = true ∧ Q (rngL i (j - i).toNat, x.2) := by
  unfold rg2
  rw [is_bind]
  refine is_congr fun x => ?_
  obtain ⟨ds, e⟩ := x
  match ds with
  | [] => simp only [on2, is_none]
  | [d] => simp only [on2, is_none]
  | [d, d'] => cases d <;> cases d' <;> simp only [on2, io, is_none, is_some, is_if]
  | _ :: _ :: _ :: _ => simp only [on2, is_none]
theorem w_for {it : Fi} {g : Fg} {body : Fs} {Q : Fl × En → Prop} : is (forS it g body env) Q ↔ is (it env) fun x => is (forL g body x.1 x.2) Q := by simp only [forS, is_bind]
theorem w_forL0 {g : Fg} {body : Fs} {Q : Fl × En → Prop} : is (forL g body [] env) Q ↔ Q (.nx, env) := is_some
theorem w_forL {g : Fg} {body : Fs} {d : D} {ds : List D} {Q : Fl × En → Prop} : is (forL g body (d :: ds) env) Q ↔ is (g d env) fun e => is (body e) fun x => match x.1 with
    | .nx => is (forL g body ds x.2) Q
    | .ct => is (forL g body ds x.2) Q
    | .bk => Q (.nx, x.2)
    | .rt v => Q (.rt v, x.2) := by
  rw [show forL g body (d :: ds) env = (g d env).bind fun e1 => (body e1).bind fun x => match x.1 with
    | .nx => forL g body ds x.2
    | .ct => forL g body ds x.2
    | .bk => some (.nx, x.2)
    | .rt v => some (.rt v, x.2) from rfl, is_bind]
  refine is_congr fun e => ?_
  rw [is_bind]
  refine is_congr fun x => ?_
  obtain ⟨fl, e⟩ := x
  cases fl <;> first | exact Iff.rfl | exact is_some
theorem w_lcF {it : Fi} {g : Fg} {t : Fb} {f : Fn} {vs : List Nat} {Q : D × En → Prop} : is (lcF it g t f vs env) Q ↔ is (it env) fun x => (x.1.length ≤ 1000000 ∧ okV x.2 vs = true) ∧ is (lcL g t f vs x.1 (wipeE x.2 vs)) fun y => Q (.list y.1, restE x.2 y.2 vs) := by simp only [lcF, is_bind, is_if, is_some]
theorem w_lcL0 {g : Fg} {t : Fb} {f : Fn} {vs : List Nat} {Q : List D × En → Prop} : is (lcL g t f vs [] env) Q ↔ Q ([], env) := is_some
theorem w_lcL {g : Fg} {t : Fb} {f : Fn} {vs : List Nat} {d : D} {ds : List D} {Q : List D × En → Prop} : is (lcL g t f vs (d :: ds) env) Q ↔ is (g d env) fun e => is (t e) fun b => if b.1 = true then is (f b.2) fun x => is (lcL g t f vs ds (wipeE x.2 vs)) fun y => Q (x.1 :: y.1, y.2) else is (lcL g t f vs ds (wipeE b.2 vs)) Q := by
  rw [lcL]
  simp only [is_bind, is_b, is_some]
theorem w_yes {Q : Bool × En → Prop} : is (yesT env) Q ↔ Q (true, env) := is_some
theorem w_leF {f : Fa} {Q : D × En → Prop} : is (leF f env) Q ↔ is (f env) fun x => is (on1 x.1) fun d => match d with
    | .list ds => Q (.list (enumL 0 ds), x.2)
    | _ => False := by
  unfold leF
  rw [is_bind]
  refine is_congr fun x => ?_
  obtain ⟨ds, e⟩ := x
  match ds with
  | [] => simp only [on1, is_none]
  | [d] => cases d <;> simp only [on1, is_none, is_some]
  | _ :: _ :: _ => simp only [on1, is_none]
theorem w_dzF {f : Fa} {Q : D × En → Prop} : is (dzF f env) Q ↔ is (f env) fun x => is (on2 x.1) fun d => is (itemsD d.1) fun as => is (keysD as) fun ks => is (seqD d.2) fun bs => ks.length ≤ Sz ∧ Q (.dict (mgD [] (ks.zip bs)), x.2) := by
  unfold dzF
  rw [is_bind]
  refine is_congr fun x => ?_
  obtain ⟨ds, e⟩ := x
  match ds with
  | [] => simp only [on2, is_none]
  | [_] => simp only [on2, is_none]
  | [_, _] => simp only [on2, is_bind, is_if, is_some]
  | _ :: _ :: _ :: _ => simp only [on2, is_none]
end
/-! ### defs -/
theorem semP_of {n : Nat} {fr : Bool} {g : Fs} {ds : List D} {Q : D → Prop} (h : is (g (envP n ds)) fun x => match x.1 with
    | .rt d => Q d
    | .nx => fr = false ∧ Q .none
    | _ => False) : is (semP n fr g ds) Q := by
  obtain ⟨⟨fl, e⟩, h1, h2⟩ := h
  unfold semP
  rw [h1]
  cases fl with
  | rt d => exact ⟨d, rfl, h2⟩
  | nx =>
    obtain ⟨h3, h4⟩ := h2
    subst h3
    exact ⟨_, rfl, h4⟩
  | bk => exact h2.elim
  | ct => exact h2.elim
theorem semM_of {n : Nat} {fr : Bool} {g : Fs} {d0 : D} {ds : List D} {Q : D × D → Prop} (h : is (g (Sl.mp d0 :: (ds.map Sl.fz ++ List.replicate (n - (ds.length + 1)) Sl.un))) fun x => is (mpOf x.2) fun d1 => match x.1 with
    | .rt d => Q (d, d1)
    | .nx => fr = false ∧ Q (.none, d1)
    | _ => False) : is (semM n fr g d0 ds) Q := by
  obtain ⟨⟨fl, e⟩, h1, d1, h0, h2⟩ := h
  unfold semM
  rw [h1]
  have h0' : mpOf e = some d1 := h0
  cases fl with
  | rt d => exact ⟨(d, d1), by show (mpOf e).map _ = _; rw [h0']; rfl, h2⟩
  | nx =>
    obtain ⟨h3, h4⟩ := h2
    subst h3
    exact ⟨(.none, d1), by show (mpOf e).map _ = _; rw [h0']; rfl, h4⟩
  | bk => exact h2.elim
  | ct => exact h2.elim
/-- all the rules, for simp -/
theorem eqs {α : Type} : True := trivial
end Ew

/-! PlStr: texts as lists of signs; every operator's rule under «is». -/
namespace Ew
open PySem L2

theorem is_get0 {α : Type} {x : α} {l : List α} {Q : α → Prop} : is ((x :: l)[(0 : Nat)]?) Q ↔ Q x := is_some
theorem is_getS {α : Type} {x : α} {l : List α} {n : Nat} {Q : α → Prop} : is ((x :: l)[n + 1]?) Q ↔ is (l[n]?) Q := Iff.rfl
theorem is_mono {α : Type} {o : Option α} {P Q : α → Prop} (h : is o P) (k : ∀ a, P a → Q a) : is o Q := let ⟨a, e, p⟩ := h; ⟨a, e, k a p⟩
theorem is_eq {α : Type} {o : Option α} {a : α} (h : is o fun x => x = a) : o = some a := let ⟨_, e, p⟩ := h; by rw [e, p]
theorem is_of {α : Type} {o : Option α} {a : α} {Q : α → Prop} (h : o = some a) (q : Q a) : is o Q := ⟨a, h, q⟩
theorem is_iff {α : Type} {o : Option α} {a : α} {Q : α → Prop} (h : o = some a) : is o Q ↔ Q a := by rw [h]; exact is_some
theorem is_ifc {α : Type} {c : Prop} [Decidable c] {o : Option α} {a : α} {Q : α → Prop} (h : o = if c then some a else none) : is o Q ↔ c ∧ Q a := by rw [h, is_if, is_some]

abbrev Tx := List Nat
def S (l : Tx) : D := .str ⟨l.toArray⟩
def S1 (c : Nat) : D := S [c]
def T (ds : List D) : D := .tuple ds
theorem str_S (x : Str) : PyData.str x = S x.cps.toList := by unfold S; rw [Array.toArray_toList]
theorem lit_0 : ("" : Str).cps.toList = [] := by decide +kernel
theorem lit_1 : ("#" : Str).cps.toList = [35] := by decide +kernel
theorem lit_2 : ("##" : Str).cps.toList = [35, 35] := by decide +kernel
theorem S_inj {a b : Tx} : S a = S b ↔ a = b := by
  refine ⟨fun h => ?_, fun h => by rw [h]⟩
  unfold S at h
  injection h with h
  injection h with h
  exact List.toArray_inj h
theorem str_dec {a b : Tx} : decide ((⟨a.toArray⟩ : Str) = ⟨b.toArray⟩) = decide (a = b) := by
  have e : ((⟨a.toArray⟩ : Str) = ⟨b.toArray⟩) ↔ a = b := ⟨fun h => List.toArray_inj (Str.mk.inj h), fun h => by rw [h]⟩
  exact decide_eq_decide.mpr e
section
variable {i j : Int} {a b : Tx} {p q : Bool} {xs ys : List D} {d e : D} {Q : D → Prop}
/-! arithmetic -/
theorem q_addI : is (ap2 addD [.int i, .int j]) Q ↔ Q (.int (i + j)) := is_iff rfl
theorem q_subI : is (ap2 subI [.int i, .int j]) Q ↔ Q (.int (i - j)) := is_iff rfl
theorem mul_ii (h : okMul i j = true) : mulD (.int i) (.int j) = some (.int (i * j)) := by
  have e : mulI (.int i) (.int j) = some (.int (i * j)) := by
    show (if okMul i j = true then some (PyData.int (i * j)) else none) = _
    rw [if_pos h]
  unfold mulD orG
  rw [e]; rfl
theorem q_mulI : is (ap2 mulD [.int i, .int j]) Q ↔ okMul i j = true ∧ Q (.int (i * j)) := by
  by_cases h : okMul i j = true
  · have e : ap2 mulD [.int i, .int j] = some (.int (i * j)) := mul_ii h
    rw [e, is_some]
    exact ⟨fun z => ⟨h, z⟩, fun z => z.2⟩
  · have e : ap2 mulD [.int i, .int j] = none := by
      have e1 : mulI (.int i) (.int j) = none := by
        show (if okMul i j = true then some (PyData.int (i * j)) else none) = _
        rw [if_neg h]
      show (mulI (.int i) (.int j)).or _ = none
      rw [e1]; rfl
    rw [e, is_none]
    exact ⟨False.elim, fun z => h z.1⟩
theorem ok_mul : okMul i j = true ↔ (-(2 ^ 64) < i ∧ i < 2 ^ 64) ∨ (-(2 ^ 64) < j ∧ j < 2 ^ 64) := by
  unfold okMul
  rw [Bool.or_eq_true, decide_eq_true_eq, decide_eq_true_eq]
theorem ok_div : okDiv i j = true ↔ 0 < j ∧ j < 1073741824 := by unfold okDiv; exact decide_eq_true_iff
theorem ok_mod : okMod i j = true ↔ 0 < j := by unfold okMod; exact decide_eq_true_iff
theorem ok_pow : okPow i j = true ↔ 0 ≤ j ∧ j ≤ 1000000 ∧ i.natAbs < 2 ^ 64 := by unfold okPow; exact decide_eq_true_iff
theorem ok_r : okR i = true ↔ -(2 ^ 62) ≤ i ∧ i < 2 ^ 62 := by unfold okR; exact decide_eq_true_iff
theorem ixn_20 : ixN 2 0 = some 0 := rfl
theorem ixn_21 : ixN 2 1 = some 1 := rfl
theorem sz_eq : Sz = 16777216 := rfl
theorem q_divI : is (ap2 divI [.int i, .int j]) Q ↔ okDiv i j = true ∧ Q (.int (i / j)) := is_ifc rfl
theorem q_modI : is (ap2 modI [.int i, .int j]) Q ↔ okMod i j = true ∧ Q (.int (i % j)) := is_ifc rfl
theorem q_powI : is (ap2 powI [.int i, .int j]) Q ↔ okPow i j = true ∧ Q (.int (i ^ j.toNat)) := is_ifc rfl
theorem q_negI : is (negD (.int i)) Q ↔ Q (.int (-i)) := is_some
theorem q_ltI : is (ap2 ltD [.int i, .int j]) Q ↔ Q (.bool (decide (i < j))) := is_iff rfl
theorem q_leI : is (ap2 leD [.int i, .int j]) Q ↔ Q (.bool (decide (i ≤ j))) := is_iff rfl
theorem q_gtI : is (ap2 gtD [.int i, .int j]) Q ↔ Q (.bool (decide (j < i))) := is_iff rfl
theorem q_geI : is (ap2 geD [.int i, .int j]) Q ↔ Q (.bool (decide (j ≤ i))) := is_iff rfl
theorem q_ltS : is (ap2 ltD [S a, S b]) Q ↔ Q (.bool (decide (a < b))) := is_iff rfl
theorem q_leI' : is (leD (.int i) (.int j)) Q ↔ Q (.bool (decide (i ≤ j))) := is_iff rfl
theorem q_ltI' : is (ltD (.int i) (.int j)) Q ↔ Q (.bool (decide (i < j))) := is_iff rfl
theorem q_bo {R : Bool → Prop} : is (bo (.bool p)) R ↔ R p := is_some
theorem q_io {R : Int → Prop} : is (io (.int i)) R ↔ R i := is_some
theorem q_tu {R : List D → Prop} : is (tu (.tuple xs)) R ↔ R xs := is_some
theorem q_on1 {R : D → Prop} : is (on1 [d]) R ↔ R d := is_some
theorem q_on2 {R : D × D → Prop} : is (on2 [d, e]) R ↔ R (d, e) := is_some
/-! equality -/
theorem q_eqS : is (ap2 eqD [S a, S b]) Q ↔ Q (.bool (decide (a = b))) := by
  have e : ap2 eqD [S a, S b] = some (.bool (decide ((⟨a.toArray⟩ : Str) = ⟨b.toArray⟩))) := rfl
  rw [e, str_dec]; exact is_some
theorem q_neS : is (ap2 neD [S a, S b]) Q ↔ Q (.bool (!decide (a = b))) := by
  have e : ap2 neD [S a, S b] = some (.bool (!decide ((⟨a.toArray⟩ : Str) = ⟨b.toArray⟩))) := rfl
  rw [e, str_dec]; exact is_some
theorem eq_str {x y : Str} : eqD (.str x) (.str y) = some (.bool (decide (x = y))) := rfl
theorem ne_str {x y : Str} : neD (.str x) (.str y) = some (.bool (!decide (x = y))) := rfl
theorem q_eqR {x y : Str} : is (ap2 eqD [.str x, .str y]) Q ↔ Q (.bool (decide (x = y))) := is_some
theorem q_neR {x y : Str} : is (ap2 neD [.str x, .str y]) Q ↔ Q (.bool (!decide (x = y))) := is_some
theorem eqI_dec : PyData.eqv (.int i) (.int j) = decide (i = j) := by
  rw [PyData.eqv, Bool.eq_iff_iff]
  simp
theorem q_eqI : is (ap2 eqD [.int i, .int j]) Q ↔ Q (.bool (decide (i = j))) := by
  have e : ap2 eqD [.int i, .int j] = some (.bool (PyData.eqv (.int i) (.int j))) := rfl
  rw [e, eqI_dec]; exact is_some
theorem q_neI : is (ap2 neD [.int i, .int j]) Q ↔ Q (.bool (!decide (i = j))) := by
  have e : ap2 neD [.int i, .int j] = some (.bool (!PyData.eqv (.int i) (.int j))) := rfl
  rw [e, eqI_dec]; exact is_some
theorem eq_of (h1 : SeqAt.shaped d = true) (h2 : SeqAt.shaped e = true) : eqH d e = some (.bool (PyData.eqv d e)) := by
  unfold eqH
  rw [h1, h2]; rfl
/-! texts -/
theorem len_S : (⟨a.toArray⟩ : Str).length = a.length := by simp [Str.length]
theorem app_S : (⟨a.toArray⟩ ++ ⟨b.toArray⟩ : Str) = ⟨(a ++ b).toArray⟩ := by
  show Str.append _ _ = _
  unfold Str.append
  simp
theorem q_addS : is (ap2 addD [S a, S b]) Q ↔ a.length + b.length ≤ Sz ∧ Q (S (a ++ b)) := by
  have e : ap2 addD [S a, S b] = if a.length + b.length ≤ Sz then some (S (a ++ b)) else none := by
    show ((none : Option D).or (((if (⟨a.toArray⟩ : Str).length + (⟨b.toArray⟩ : Str).length ≤ Sz then some (PyData.str (⟨a.toArray⟩ ++ ⟨b.toArray⟩)) else none)).or _)) = _
    rw [len_S, len_S, app_S]
    by_cases h : a.length + b.length ≤ Sz
    · rw [if_pos h, if_pos h]; rfl
    · rw [if_neg h, if_neg h]; rfl
  exact is_ifc e
theorem q_addT : is (ap2 addD [.tuple xs, .tuple ys]) Q ↔ xs.length + ys.length ≤ Sz ∧ Q (.tuple (xs ++ ys)) := by
  have e : ap2 addD [.tuple xs, .tuple ys] = if xs.length + ys.length ≤ Sz then some (.tuple (xs ++ ys)) else none := by
    show ((none : Option D).or ((none : Option D).or ((if xs.length + ys.length ≤ Sz then some (PyData.tuple (xs ++ ys)) else none).or none))) = _
    by_cases h : xs.length + ys.length ≤ Sz
    · rw [if_pos h]; rfl
    · rw [if_neg h]; rfl
  exact is_ifc e
theorem q_addL : is (ap2 addD [.list xs, .list ys]) Q ↔ xs.length + ys.length ≤ Sz ∧ Q (.list (xs ++ ys)) := by
  have e : ap2 addD [.list xs, .list ys] = if xs.length + ys.length ≤ Sz then some (.list (xs ++ ys)) else none := by
    show ((none : Option D).or ((none : Option D).or ((none : Option D).or (if xs.length + ys.length ≤ Sz then some (PyData.list (xs ++ ys)) else none)))) = _
    by_cases h : xs.length + ys.length ≤ Sz
    · rw [if_pos h]; rfl
    · rw [if_neg h]; rfl
  exact is_ifc e
/-! subscripts -/
theorem q_ixL : is (ap2 ixD [.list xs, .int i]) Q ↔ is (atI xs i) Q := Iff.rfl
theorem q_ixT : is (ap2 ixD [.tuple xs, .int i]) Q ↔ is (atI xs i) Q := Iff.rfl
theorem q_ixS : is (ap2 ixD [S a, .int i]) Q ↔ a.length ≤ Sz ∧ is (atI a i) fun c => Q (S1 c) := by
  have e : ap2 ixD [S a, .int i] = if a.length ≤ Sz then (atI a i).map S1 else none := by
    show (if (⟨a.toArray⟩ : Str).length ≤ Sz then (atI (⟨a.toArray⟩ : Str).cps.toList i).map (fun c => PyData.str ⟨#[c]⟩) else none) = _
    rw [len_S]; rfl
  rw [e, is_if, is_map]
theorem at_nat {α : Type} {l : List α} {n : Nat} : atI l (n : Int) = l[n]? := by
  unfold atI ixN
  by_cases h : n < l.length
  · rw [if_pos (by omega), if_pos (by omega)]
    simp
  · rw [if_pos (by omega), if_neg (by omega)]
    simp at h
    simp [h]
theorem at_0 {α : Type} {l : List α} : atI l 0 = l[0]? := at_nat (n := 0)
theorem at_1 {α : Type} {l : List α} : atI l 1 = l[1]? := at_nat (n := 1)
theorem at_2 {α : Type} {l : List α} : atI l 2 = l[2]? := at_nat (n := 2)
theorem at_3 {α : Type} {l : List α} : atI l 3 = l[3]? := at_nat (n := 3)
theorem at_4 {α : Type} {l : List α} : atI l 4 = l[4]? := at_nat (n := 4)
theorem at_5 {α : Type} {l : List α} : atI l 5 = l[5]? := at_nat (n := 5)
theorem is_at0 {α : Type} {l : List α} {R : α → Prop} : is (atI l 0) R ↔ is (l[0]?) R := by rw [at_0]
theorem is_at1 {α : Type} {l : List α} {R : α → Prop} : is (atI l 1) R ↔ is (l[1]?) R := by rw [at_1]
theorem is_at2 {α : Type} {l : List α} {R : α → Prop} : is (atI l 2) R ↔ is (l[2]?) R := by rw [at_2]
theorem is_at3 {α : Type} {l : List α} {R : α → Prop} : is (atI l 3) R ↔ is (l[3]?) R := by rw [at_3]
theorem is_at4 {α : Type} {l : List α} {R : α → Prop} : is (atI l 4) R ↔ is (l[4]?) R := by rw [at_4]
theorem is_at5 {α : Type} {l : List α} {R : α → Prop} : is (atI l 5) R ↔ is (l[5]?) R := by rw [at_5]
theorem is_ati {α : Type} {l : List α} {n : Nat} {R : α → Prop} : is (atI l (n : Int)) R ↔ is (l[n]?) R := by rw [at_nat]
theorem at_last {α : Type} {l : List α} {x : α} : atI (l ++ [x]) (-1) = some x := by
  unfold atI ixN
  rw [if_neg (by omega), if_pos (by simp; omega)]
  show (l ++ [x])[((-1 : Int) + ((l ++ [x]).length : Int)).toNat]? = _
  rw [show ((-1 : Int) + ((l ++ [x]).length : Int)).toNat = l.length by simp; omega]
  simp
theorem at_lt {α : Type} {l : List α} {i : Int} (h0 : 0 ≤ i) {R : α → Prop} (h : ∃ x, l[i.toNat]? = some x ∧ R x) : is (atI l i) R := by
  have e : i = (i.toNat : Int) := by omega
  rw [e, at_nat]
  exact h
/-! len and others -/
theorem q_lenL : is (lenG [.list xs]) Q ↔ Q (.int (xs.length : Nat)) := is_some
theorem q_lenT : is (lenG [.tuple xs]) Q ↔ Q (.int (xs.length : Nat)) := is_some
theorem q_lenS : is (lenG [S a]) Q ↔ a.length ≤ Sz ∧ Q (.int (a.length : Nat)) := by
  have e : lenG [S a] = if a.length ≤ Sz then some (.int (a.length : Nat)) else none := by
    show (if (⟨a.toArray⟩ : Str).length ≤ Sz then some (PyData.int ((⟨a.toArray⟩ : Str).length : Nat)) else none) = _
    rw [len_S]
  exact is_ifc e
theorem q_int : is (intG [.int i]) Q ↔ Q (.int i) := is_some
theorem q_abs : is (absG [.int i]) Q ↔ Q (.int (if i < 0 then -i else i)) := is_some
theorem q_max : is (maxG [.int i, .int j]) Q ↔ Q (.int (if j > i then j else i)) := is_some
theorem q_min : is (minG [.int i, .int j]) Q ↔ Q (.int (if j < i then j else i)) := is_some
theorem q_dm : is (dmG [.int i, .int j]) Q ↔ okDiv i j = true ∧ Q (.tuple [.int (i / j), .int (i % j)]) := is_ifc rfl
theorem q_tupL : is (tupG1 [.list xs]) Q ↔ Q (.tuple xs) := is_some
theorem q_tupT : is (tupG1 [.tuple xs]) Q ↔ Q (.tuple xs) := is_some
theorem chs_S : chsD ⟨a.toArray⟩ = a.map S1 := rfl
theorem q_tupS : is (tupG1 [S a]) Q ↔ a.length ≤ Sz ∧ Q (.tuple (a.map S1)) := by
  have e : tupG1 [S a] = if a.length ≤ Sz then some (.tuple (a.map S1)) else none := by
    show (if (⟨a.toArray⟩ : Str).length ≤ Sz then some (PyData.tuple (chsD ⟨a.toArray⟩)) else none) = _
    rw [len_S, chs_S]
  exact is_ifc e
theorem q_lisL : is (lisG [.list xs]) Q ↔ Q (.list xs) := is_some
theorem q_lisT : is (lisG [.tuple xs]) Q ↔ Q (.list xs) := is_some
theorem q_lisS : is (lisG [S a]) Q ↔ a.length ≤ Sz ∧ Q (.list (a.map S1)) := by
  have e : lisG [S a] = if a.length ≤ Sz then some (.list (a.map S1)) else none := by
    show (if (⟨a.toArray⟩ : Str).length ≤ Sz then some (PyData.list (chsD ⟨a.toArray⟩)) else none) = _
    rw [len_S, chs_S]
  exact is_ifc e
theorem bools_map {α : Type} {f : α → Bool} : ∀ {l : List α}, bools (l.map fun x => .bool (f x)) = some (l.map f)
  | [] => rfl
  | x :: l => by rw [List.map_cons, bools, bools_map]; rfl
theorem q_all {α : Type} {f : α → Bool} {l : List α} : is (allG [.list (l.map fun x => .bool (f x))]) Q ↔ Q (.bool (l.all f)) := by
  have e : allG [.list (l.map fun x => .bool (f x))] = some (.bool (l.all f)) := by
    show (bools (l.map fun x => PyData.bool (f x))).map (fun bs => PyData.bool (bs.all fun b => b)) = _
    rw [bools_map]
    show some (PyData.bool ((l.map f).all fun b => b)) = _
    rw [List.all_map]; rfl
  exact is_iff e
theorem q_any {α : Type} {f : α → Bool} {l : List α} : is (anyG [.list (l.map fun x => .bool (f x))]) Q ↔ Q (.bool (l.any f)) := by
  have e : anyG [.list (l.map fun x => .bool (f x))] = some (.bool (l.any f)) := by
    show (bools (l.map fun x => PyData.bool (f x))).map (fun bs => PyData.bool (bs.any fun b => b)) = _
    rw [bools_map]
    show some (PyData.bool ((l.map f).any fun b => b)) = _
    rw [List.any_map]; rfl
  exact is_iff e
theorem q_items_L {R : List D → Prop} : is (itemsD (.list xs)) R ↔ R xs := is_some
theorem q_items_T {R : List D → Prop} : is (itemsD (.tuple xs)) R ↔ R xs := is_some
theorem q_items_S {R : List D → Prop} : is (itemsD (S a)) R ↔ R (a.map S1) := is_some
theorem q_seq_L {R : List D → Prop} : is (seqD (.list xs)) R ↔ R xs := is_some
theorem q_seq_T {R : List D → Prop} : is (seqD (.tuple xs)) R ↔ R xs := is_some
theorem q_app {R : D × D → Prop} : is (appG (.list xs) [d]) R ↔ xs.length < Sz ∧ R (.none, .list (xs ++ [d])) := is_ifc rfl
theorem q_isTT : isA .tup (.tuple xs) = true := rfl
theorem q_isTS : isA .tup (S a) = false := rfl
theorem q_isSS : isA .str (S a) = true := rfl
theorem q_isST : isA .str (.tuple xs) = false := rfl
theorem q_isII : isA .int (.int i) = true := rfl
theorem q_okS : okS (S a) = true := rfl
theorem q_okLi : okLi (.list xs) = true := rfl
/-! in -/
theorem q_in1 {c : Nat} : is (ap2 inD [S1 c, S a]) Q ↔ Q (.bool (decide (c ∈ a))) := is_iff rfl
theorem q_ni1 {c : Nat} : is (ap2 niD [S1 c, S a]) Q ↔ Q (.bool (!decide (c ∈ a))) := is_iff rfl
theorem enum_map {α : Type} {f : α → D} : ∀ {l : List α} {n : Nat}, enumL n (l.map f) = (l.zipIdx n).map fun p => .tuple [.int (p.2 : Nat), f p.1]
  | [], _ => rfl
  | x :: l, n => by
    rw [List.map_cons, enumL, enum_map, List.zipIdx_cons, List.map_cons]
theorem zip_map {α β : Type} {f : α → D} {g : β → D} : ∀ {l : List α} {m : List β}, zipL (l.map f) (m.map g) = (l.zip m).map fun p => .tuple [f p.1, g p.2]
  | [], _ => by simp [zipL]
  | _ :: _, [] => by simp [zipL]
  | x :: l, y :: m => by
    rw [List.map_cons, List.map_cons, zipL, zip_map]; rfl
theorem rng_map {n : Nat} : rngL 0 n = (List.range n).map fun k => .int (k : Nat) := by
  unfold rngL
  refine List.map_congr_left fun k _ => ?_
  rw [Int.zero_add]
/-! slices -/
theorem cut_none {l : List D} : cutD l none none = l := by simp [cutD, HT.sIx]
theorem sIx_none0 {n d : Nat} : HT.sIx n d none = d := rfl
theorem sIx_nat' {n d : Nat} {k : Int} (h : 0 ≤ k) : HT.sIx n d (some k) = min k.toNat n := by
  obtain ⟨m, rfl⟩ : ∃ m : Nat, k = m := ⟨k.toNat, by omega⟩
  rw [HT.sIx_nat]; rfl
def cutT {α : Type} (l : List α) (lo hi : Option Int) : List α := (l.drop (HT.sIx l.length 0 lo)).take (HT.sIx l.length l.length hi - HT.sIx l.length 0 lo)
theorem cutT_from {α : Type} {l : List α} {k : Int} (h : 0 ≤ k) : cutT l (some k) none = l.drop k.toNat := by
  unfold cutT
  rw [sIx_nat' h, sIx_none0]
  by_cases c : k.toNat ≤ l.length
  · rw [Nat.min_eq_left c]
    exact List.take_of_length_le (by simp)
  · rw [Nat.min_eq_right (by omega), List.drop_of_length_le (Nat.le_refl _), List.drop_of_length_le (by omega)]
    simp
theorem cutT_to {α : Type} {l : List α} {k : Int} (h : 0 ≤ k) : cutT l none (some k) = l.take k.toNat := by
  unfold cutT
  rw [sIx_nat' h, sIx_none0, List.drop_zero, Nat.sub_zero]
  by_cases c : k.toNat ≤ l.length
  · rw [Nat.min_eq_left c]
  · rw [Nat.min_eq_right (by omega), List.take_of_length_le (Nat.le_refl _), List.take_of_length_le (by omega)]
theorem cutT_mid {α : Type} {l : List α} {j k : Int} (h : 0 ≤ j) (h' : 0 ≤ k) : cutT l (some j) (some k) = (l.drop j.toNat).take (k.toNat - j.toNat) := by
  unfold cutT
  rw [sIx_nat' h, sIx_nat' h']
  by_cases c : j.toNat ≤ l.length
  · rw [Nat.min_eq_left c]
    by_cases c' : k.toNat ≤ l.length
    · rw [Nat.min_eq_left c']
    · rw [Nat.min_eq_right (by omega : l.length ≤ k.toNat), List.take_of_length_le (by simp), List.take_of_length_le (by simp; omega)]
  · rw [Nat.min_eq_right (by omega : l.length ≤ j.toNat), List.drop_of_length_le (Nat.le_refl _), List.drop_of_length_le (by omega : l.length ≤ j.toNat)]
    simp
theorem q_slS {lo hi : Option Int} : is (slD (S a) lo hi) Q ↔ a.length ≤ Sz ∧ Q (S (cutT a lo hi)) := by
  have e : slD (S a) lo hi = if a.length ≤ Sz then some (S (cutT a lo hi)) else none := by
    show (if (⟨a.toArray⟩ : Str).length ≤ Sz then some (PyData.str (cutS ⟨a.toArray⟩ lo hi)) else none).or none = _
    have e2 : PyData.str (cutS ⟨a.toArray⟩ lo hi) = S (cutT a lo hi) := by
      unfold cutS S cutT
      rw [len_S]
    rw [len_S, e2]
    by_cases h : a.length ≤ Sz
    · rw [if_pos h]; rfl
    · rw [if_neg h]; rfl
  exact is_ifc e
theorem q_slT {lo hi : Option Int} : is (slD (.tuple xs) lo hi) Q ↔ Q (.tuple (cutT xs lo hi)) := is_iff rfl
theorem q_slL {lo hi : Option Int} : is (slD (.list xs) lo hi) Q ↔ Q (.list (cutT xs lo hi)) := is_iff rfl
theorem q_slLL {lo hi : Option Int} : is (slL (.list xs) lo hi) Q ↔ Q (.list (cutT xs lo hi)) := is_iff rfl
/-! join of nothing -/
theorem txs_map {l : List Tx} : txs (l.map S) = some (l.map fun x => (⟨x.toArray⟩ : Str)) := by
  induction l with
  | nil => rfl
  | cons x l ih => rw [List.map_cons, S, txs, ih]; rfl
theorem join_cps (ps : List Tx) : Txt.join ⟨#[]⟩ (ps.map fun x => (⟨x.toArray⟩ : Str)) = ⟨ps.flatten.toArray⟩ := by
  rw [TL.join_eq]
  induction ps with
  | nil => rfl
  | cons x ps ih =>
    match ps, ih with
    | [], _ => show (⟨x.toArray⟩ : Str) = _; simp
    | y :: ps, ih =>
      show Str.append (Str.append ⟨x.toArray⟩ ⟨#[]⟩) (Str.join ⟨#[]⟩ ((y :: ps).map fun x => (⟨x.toArray⟩ : Str))) = _
      rw [ih]
      unfold Str.append
      simp
theorem sum_len {l : List Tx} : ((l.map fun x => (⟨x.toArray⟩ : Str)).map (·.length)).sum = l.flatten.length := by
  rw [List.length_flatten, List.map_map]
  congr 1
theorem q_joinL {l : List Tx} {z : Tx} (hz : z = []) : is (joinG (S z) [.list (l.map S)]) Q ↔ l.flatten.length ≤ Sz ∧ Q (S l.flatten) := by
  subst hz
  have e : joinG (S []) [.list (l.map S)] = if l.flatten.length ≤ Sz then some (S l.flatten) else none := by
    show ((txs (l.map S)).bind fun ys => if (ys.map (·.length)).sum + ys.length * (⟨#[]⟩ : Str).length ≤ Sz then some (PyData.str (Txt.join ⟨#[]⟩ ys)) else none) = _
    rw [txs_map]
    show (if ((l.map fun x => (⟨x.toArray⟩ : Str)).map (·.length)).sum + _ * 0 ≤ Sz then some (PyData.str (Txt.join ⟨#[]⟩ (l.map fun x => (⟨x.toArray⟩ : Str)))) else none) = _
    rw [sum_len, join_cps, Nat.mul_zero, Nat.add_zero]
    try rfl
  exact is_ifc e
theorem S1_map {l : Tx} : l.map S1 = (l.map fun c => [c]).map S := by rw [List.map_map]; rfl
theorem flat1 {l : Tx} : (l.map fun c => [c]).flatten = l := by
  induction l with
  | nil => rfl
  | cons x l ih => rw [List.map_cons, List.flatten_cons, ih]; rfl
theorem q_joinS {l : Tx} {z : Tx} (hz : z = []) : is (joinG (S z) [.list (l.map S1)]) Q ↔ l.length ≤ Sz ∧ Q (S l) := by
  rw [S1_map, q_joinL hz, flat1]
end
end Ew

/-! PlWalk: comprehensions and loops with a rule for each turn. -/
namespace Ew
open PySem L2

def pOk : Sl → Prop
  | .mp _ => False
  | _ => True
def sl : Option D → Sl
  | none => .un
  | some d => .fz d
theorem pOk_un : pOk .un = True := rfl
theorem pOk_fz {d : D} : pOk (.fz d) = True := rfl
theorem pOk_ow {d : D} : pOk (.ow d) = True := rfl
theorem pOk_sl {o : Option D} : pOk (sl o) = True := by cases o <;> rfl
/-! rules that go from without to within -/
def setC (e : En) (i : Nat) (s : Sl) (k : En → Prop) : Prop := k (e.set i s)
def vfC (s : Sl) (env : En) (i : Nat) (Q : D × En → Prop) : Prop := match s with
  | .fz d => Q (d, env)
  | .ow d => Q (d, env.set i (.fz d))
  | _ => False
section
variable {env e : En} {i n : Nat} {s x : Sl} {k : En → Prop} {d d' : D} {p : Bool} {z : Str}
theorem setC_0 : setC (x :: e) 0 s k ↔ k (s :: e) := Iff.rfl
theorem setC_S : setC (x :: e) (n + 1) s k ↔ setC e n s fun e' => k (x :: e') := Iff.rfl
theorem w_putK {Q : En → Prop} : is (put env i s) Q ↔ is (env[i]?) fun t => pOk t ∧ setC env i s Q := by
  rw [w_put]
  refine is_congr fun t => ?_
  cases t <;> simp [pOk, setC]
theorem w_setK {f : Fn} {Q : Fl × En → Prop} : is (setS i f env) Q ↔ is (f env) fun x => is (x.2[i]?) fun t => pOk t ∧ setC x.2 i (.fz x.1) fun e => Q (.nx, e) := by
  rw [w_setS]
  exact is_congr fun x => w_putK
theorem w_setOK {f : Fn} {Q : Fl × En → Prop} : is (setO i f env) Q ↔ is (f env) fun x => is (x.2[i]?) fun t => pOk t ∧ setC x.2 i (.ow x.1) fun e => Q (.nx, e) := by
  rw [w_setO]
  exact is_congr fun x => w_putK
theorem w_vfK {Q : D × En → Prop} : is (vf i env) Q ↔ is (env[i]?) fun s => vfC s env i Q := w_vf
theorem vfC_fz {Q : D × En → Prop} : vfC (.fz d) env i Q ↔ Q (d, env) := Iff.rfl
theorem vfC_ow {Q : D × En → Prop} : vfC (.ow d) env i Q ↔ setC env i (.fz d) fun e => Q (d, e) := Iff.rfl
theorem w_mvfK {Q : D × En → Prop} : is (mvf i env) Q ↔ is (env[i]?) fun s => match s with
    | .ow d => setC env i .un fun e => Q (d, e)
    | _ => False := w_mvf
theorem w_look {Q : D → Prop} : is (look env i) Q ↔ is (env[i]?) fun s => is s.val? Q := is_bind
theorem val_fz {Q : D → Prop} : is (Sl.fz d).val? Q ↔ Q d := is_some
theorem val_ow {Q : D → Prop} : is (Sl.ow d).val? Q ↔ Q d := is_some
theorem val_mp {Q : D → Prop} : is (Sl.mp d).val? Q ↔ Q d := is_some
theorem redo_ow {Q : Sl → Prop} : is ((Sl.ow d).redo d') Q ↔ Q (.ow d') := is_some
theorem redo_mp {Q : Sl → Prop} : is ((Sl.mp d).redo d') Q ↔ Q (.mp d') := is_some
theorem isOw_ow : (Sl.ow d).isOw = true := rfl
theorem isOw_mp : (Sl.mp d).isOw = true := rfl
theorem w_callMK {m : Nat} {G : D → List D → Option (D × D)} {f : Fa} {Q : D × En → Prop} : is (callM m i G f env) Q ↔ is (look env i) fun _ => is (f env) fun x => x.1.length + 1 = m ∧ is (x.2[i]?) fun s => s.isOw = true ∧ is s.val? fun d0 => is (G d0 x.1) fun r => is (s.redo r.2) fun s' => setC x.2 i s' fun e => Q (r.1, e) := w_callM
theorem w_mutFK {m : Nat} {G : D → List D → Option (D × D)} {f : Fa} {Q : D × En → Prop} : is (mutF m i G f env) Q ↔ (is (look env i) fun d => okLi d = true) ∧ is (look env i) fun _ => is (f env) fun x => x.1.length + 1 = m ∧ is (x.2[i]?) fun s => s.isOw = true ∧ is s.val? fun d0 => is (G d0 x.1) fun r => is (s.redo r.2) fun s' => setC x.2 i s' fun e => Q (r.1, e) := by
  rw [w_mutF, w_callM]; exact Iff.rfl
theorem w_subGK {f : Fn} {Q : En → Prop} : is (subG i f d env) Q ↔ is (look env i) fun _ => is (f env) fun x => is (io x.1) fun k => is (x.2[i]?) fun s => s.isOw = true ∧ is s.val? fun v => match v with
    | .list ds => is (ixN ds.length k) fun j => is (s.redo (.list (ds.set j d))) fun s' => setC x.2 i s' Q
    | _ => False := w_subG
theorem w_cstS {Q : D × En → Prop} : is (cst (.str z) env) Q ↔ Q (S z.cps.toList, env) := by rw [w_cst, str_S]
theorem w_cstT {l : Tx} {Q : D × En → Prop} : is (cst (S l) env) Q ↔ Q (S l, env) := w_cst
theorem w_cstI {j : Int} {Q : D × En → Prop} : is (cst (.int j) env) Q ↔ Q (.int j, env) := w_cst
theorem w_cstB {Q : D × En → Prop} : is (cst (.bool p) env) Q ↔ Q (.bool p, env) := w_cst
theorem w_cstN {Q : D × En → Prop} : is (cst .none env) Q ↔ Q (.none, env) := w_cst
end
theorem mpOf_mp {d : D} {e : En} {Q : D → Prop} : is (mpOf (.mp d :: e)) Q ↔ Q d := is_some
def pl (a b : Int) : D := .list [.int a, .int b]
theorem ixn_0 {n : Nat} (h : 0 < n) : ixN n 0 = some 0 := by
  unfold ixN
  rw [if_pos (by omega), if_pos (by omega)]; rfl
theorem ixn_1 {n : Nat} (h : 1 < n) : ixN n 1 = some 1 := by
  unfold ixN
  rw [if_pos (by omega), if_pos (by omega)]; rfl
section
variable {α : Type} {g : Fg} {t : Fb} {f : Fn} {vs : List Nat} {W : En}
/-- a comprehension whose every turn gives a known value and leaves all as it was -/
theorem lc_map {e : α → D} (φ : α → D) : ∀ {xs : List α} {Q : List D × En → Prop}, (∀ x ∈ xs, is (g (e x) W) fun E => is (t E) fun b => b.1 = true ∧ is (f b.2) fun r => r.1 = φ x ∧ wipeE r.2 vs = W) → Q (xs.map φ, W) → is (lcL g t f vs (xs.map e) W) Q
  | [], Q, _, q => w_lcL0.2 q
  | d :: ds, Q, h, q => by
    rw [List.map_cons, w_lcL]
    refine is_mono (h d (List.mem_cons_self ..)) fun e he => is_mono he fun b hb => ?_
    rw [if_pos hb.1]
    refine is_mono hb.2 fun x hx => ?_
    rw [hx.2]
    refine lc_map φ (fun d' m => h d' (List.mem_cons_of_mem _ m)) ?_
    show Q (x.1 :: ds.map φ, W)
    rw [hx.1]
    exact q
theorem lc_filter {e : α → D} (p : α → Bool) (φ : α → D) : ∀ {xs : List α} {Q : List D × En → Prop}, (∀ x ∈ xs, is (g (e x) W) fun E => is (t E) fun b => b.1 = p x ∧ (p x = true → is (f b.2) fun r => r.1 = φ x ∧ wipeE r.2 vs = W) ∧ (p x = false → wipeE b.2 vs = W)) → Q ((xs.filter p).map φ, W) → is (lcL g t f vs (xs.map e) W) Q
  | [], Q, _, q => w_lcL0.2 q
  | d :: ds, Q, h, q => by
    rw [List.map_cons, w_lcL]
    refine is_mono (h d (List.mem_cons_self ..)) fun e he => is_mono he fun b ⟨hb, h1, h2⟩ => ?_
    cases hp : p d with
    | true =>
      rw [hp] at hb
      rw [if_pos hb]
      refine is_mono (h1 hp) fun x hx => ?_
      rw [hx.2]
      refine lc_filter p φ (fun d' m => h d' (List.mem_cons_of_mem _ m)) ?_
      rw [List.filter_cons_of_pos hp, List.map_cons] at q
      show Q (x.1 :: (ds.filter p).map φ, W)
      rw [hx.1]
      exact q
    | false =>
      rw [hp] at hb
      rw [if_neg (by rw [hb]; exact Bool.false_ne_true), h2 hp]
      refine lc_filter p φ (fun d' m => h d' (List.mem_cons_of_mem _ m)) ?_
      rw [List.filter_cons_of_neg (by rw [hp]; exact Bool.false_ne_true)] at q
      exact q
/-- a comprehension under an invariant, each turn giving a value that has a shape -/
theorem lc_inv {β : Type} {e : α → D} {en : β → D} (I : En → Prop) (P : α → β → Prop) : ∀ {xs : List α} {W : En} {Q : List D × En → Prop}, I W → (∀ x ∈ xs, ∀ W, I W → is (g (e x) W) fun E => is (t E) fun b => b.1 = true ∧ is (f b.2) fun r => ∃ y, r.1 = en y ∧ P x y ∧ I (wipeE r.2 vs)) →
    (∀ (ys : List β) (E : En), ys.length = xs.length → (∀ y ∈ ys, ∃ x ∈ xs, P x y) → I E → Q (ys.map en, E)) → is (lcL g t f vs (xs.map e) W) Q
  | [], W, Q, i, _, q => w_lcL0.2 (q [] W rfl (fun _ m => absurd m List.not_mem_nil) i)
  | d :: ds, W, Q, i, h, q => by
    rw [List.map_cons, w_lcL]
    refine is_mono (h d (List.mem_cons_self ..) W i) fun e he => is_mono he fun b hb => ?_
    rw [if_pos hb.1]
    refine is_mono hb.2 fun x ⟨y, hy, py, iy⟩ => ?_
    refine lc_inv I P iy (fun d' m => h d' (List.mem_cons_of_mem _ m)) fun ys E hl hp hi => ?_
    have := q (y :: ys) E (by simp [hl]) (fun z m => ?_) hi
    · rw [hy]; exact this
    · rcases List.mem_cons.mp m with c | c
      · exact ⟨d, List.mem_cons_self .., by rw [c]; exact py⟩
      · obtain ⟨x', m', p'⟩ := hp z c
        exact ⟨x', List.mem_cons_of_mem _ m', p'⟩
/-- a comprehension that keeps a part of the things, by a test that changes the state -/
theorem lc_sub {e : α → D} (I : En → Prop) : ∀ {xs : List α} {W : En} {Q : List D × En → Prop}, I W → (∀ x ∈ xs, ∀ W, I W → is (g (e x) W) fun E => is (t E) fun b => (b.1 = true → is (f b.2) fun r => r.1 = e x ∧ I (wipeE r.2 vs)) ∧ (b.1 = false → I (wipeE b.2 vs))) →
    (∀ (ys : List α) (E : En), ys.Sublist xs → I E → Q (ys.map e, E)) → is (lcL g t f vs (xs.map e) W) Q
  | [], W, Q, i, _, q => w_lcL0.2 (q [] W (List.Sublist.refl _) i)
  | d :: ds, W, Q, i, h, q => by
    rw [List.map_cons, w_lcL]
    refine is_mono (h d (List.mem_cons_self ..) W i) fun e' he => is_mono he fun b hb => ?_
    cases hb1 : b.1 with
    | true =>
      rw [if_pos rfl]
      refine is_mono (hb.1 hb1) fun x hx => ?_
      refine lc_sub I hx.2 (fun d' m => h d' (List.mem_cons_of_mem _ m)) fun ys E hs hi => ?_
      have := q (d :: ys) E (hs.cons_cons d) hi
      rw [hx.1]; exact this
    | false =>
      rw [if_neg Bool.false_ne_true]
      exact lc_sub I (hb.2 hb1) (fun d' m => h d' (List.mem_cons_of_mem _ m)) fun ys E hs hi => q ys E (hs.cons d) hi
/-- a for under an invariant by what is behind and what is ahead -/
theorem for_inv {body : Fs} {e : α → D} (I : List α → List α → En → Prop) : ∀ {b a : List α} {W : En} {Q : Fl × En → Prop}, I b a W → (∀ b x a W, I b (x :: a) W → is (g (e x) W) fun E => is (body E) fun r => (r.1 = .nx ∨ r.1 = .ct) ∧ I (b ++ [x]) a r.2) → (∀ E, I (b ++ a) [] E → Q (.nx, E)) → is (forL g body (a.map e) W) Q
  | b, [], W, Q, i, _, q => w_forL0.2 (q W (by rw [List.append_nil]; exact i))
  | b, d :: ds, W, Q, i, h, q => by
    rw [List.map_cons, w_forL]
    refine is_mono (h b d ds W i) fun e he => is_mono he fun x hx => ?_
    obtain ⟨fl, e2⟩ := x
    have q' : ∀ E, I (b ++ [d] ++ ds) [] E → Q (.nx, E) := fun E hE => q E (by simpa using hE)
    rcases hx.1 with z | z <;> (have z' : fl = _ := z; subst z'; exact for_inv I hx.2 h q')
/-- a for that may end the def: each turn goes on, or gives the answer -/
theorem for_all {body : Fs} {e : α → D} : ∀ {xs : List α} {Q : Fl × En → Prop}, (∀ x ∈ xs, is (g (e x) W) fun E => is (body E) fun r => r.1 = .nx ∧ r.2 = W) → Q (.nx, W) → is (forL g body (xs.map e) W) Q
  | [], Q, _, q => w_forL0.2 q
  | d :: ds, Q, h, q => by
    rw [List.map_cons, w_forL]
    refine is_mono (h d (List.mem_cons_self ..)) fun e he => is_mono he fun x hx => ?_
    have z : x = (.nx, W) := Prod.ext hx.1 hx.2
    rw [z]
    exact for_all (fun d' m => h d' (List.mem_cons_of_mem _ m)) q
end
end Ew

/-! PlIdx: the place of a sign in a text; dicts made of two rows. -/
namespace Ew
open PySem L2

section
open PySem.StrLaws PySem.Builtin.Str
theorem occ_full (s sub : Str) (hi : Nat) : ∀ (l : List Nat) (st : Array Nat × Nat), 1 ≤ st.fst.size → (forIn l st (occBody s sub hi 1)).run = st
  | [], st, _ => rfl
  | a :: l, st, h => by
    rw [List.forIn_cons]
    unfold occBody
    rw [if_neg (by omega)]
    exact occ_full s sub hi l st h
theorem occ_first (s sub : Str) (hi : Nat) : ∀ (l : List Nat) (free : Nat), (∀ i ∈ l, free ≤ i) → (forIn l ((#[] : Array Nat), free) (occBody s sub hi 1)).run.fst.toList = (l.find? fun i => decide (i + sub.length ≤ hi ∧ subAt s sub i = true)).toList
  | [], _, _ => rfl
  | a :: l, free, h => by
    rw [List.forIn_cons]
    unfold occBody
    have ha := h a (List.mem_cons_self ..)
    by_cases c : a + sub.length ≤ hi ∧ subAt s sub a = true
    · rw [if_pos ⟨⟨⟨by simp, ha⟩, c.1⟩, c.2⟩, List.find?_cons_of_pos (by exact decide_eq_true c)]
      have := occ_full s sub hi l (#[].push a, a + sub.length) (by simp)
      show (Id.run (forIn l (#[].push a, a + sub.length) (occBody s sub hi 1))).fst.toList = _
      rw [show Id.run (forIn l (#[].push a, a + sub.length) (occBody s sub hi 1)) = _ from this]; rfl
    · rw [if_neg (fun z => c ⟨z.1.2, z.2⟩), List.find?_cons_of_neg (by simpa using c)]
      have := occ_first s sub hi l free (fun i m => h i (List.mem_cons_of_mem _ m))
      exact this
theorem occ_one (l : Tx) (c : Nat) (h : c ∈ l) : (occurrences ⟨l.toArray⟩ ⟨#[c]⟩ 0 (⟨l.toArray⟩ : Str).length 1).head? = some (l.idxOf c) := by
  rw [occ_eq, occ_first _ _ _ _ _ (by simp)]
  have e : ((List.range' 0 ((⟨l.toArray⟩ : Str).length + 1 - 0)).find? fun i => decide (i + (⟨#[c]⟩ : Str).length ≤ (⟨l.toArray⟩ : Str).length ∧ subAt ⟨l.toArray⟩ ⟨#[c]⟩ i = true)) = some (l.idxOf c) := by
    have hp : ∀ i, decide (i + (⟨#[c]⟩ : Str).length ≤ (⟨l.toArray⟩ : Str).length ∧ subAt ⟨l.toArray⟩ ⟨#[c]⟩ i = true) = decide (l[i]? = some c) := fun i => decide_eq_decide.mpr (subAt_one ⟨l.toArray⟩ c i)
    have hlt := List.idxOf_lt_length_of_mem h
    rw [List.find?_range'_eq_some]
    refine ⟨?_, ?_, ?_⟩
    · rw [hp, decide_eq_true_eq, List.getElem?_eq_getElem hlt, List.getElem_idxOf]
    · rw [List.mem_range'_1, len_S]; omega
    · intro j _ hj
      rw [hp, Bool.not_eq_true', decide_eq_false_iff_not]
      intro z
      have hj' : j < l.length := by omega
      rw [List.getElem?_eq_getElem hj'] at z
      have := List.not_of_lt_findIdx (p := (· == c)) (xs := l) (i := j) (by simpa [List.idxOf] using hj)
      rw [Option.some.inj z, beq_self_eq_true] at this
      cases this
  rw [e]; rfl
end
theorem q_six {l : Tx} {c : Nat} (h : c ∈ l) {Q : D → Prop} : is (sixG (S l) [S1 c]) Q ↔ Q (.int (l.idxOf c : Nat)) := by
  have e : sixG (S l) [S1 c] = some (.int (l.idxOf c : Nat)) := by
    show (Builtin.Str.occurrences ⟨l.toArray⟩ ⟨#[c]⟩ 0 (⟨l.toArray⟩ : Str).length 1).head?.map (fun i => PyData.int (i : Nat)) = _
    rw [occ_one l c h]; rfl
  exact is_iff e
/-! dicts -/
def kc (c : Nat) : Key := .inr ⟨#[c]⟩
theorem kc_inj {c c' : Nat} : kc c = kc c' ↔ c = c' := by
  refine ⟨fun h => ?_, fun h => by rw [h]⟩
  unfold kc at h
  injection h with h
  injection h with h
  injection h with h
  injection h
theorem q_keys : ∀ {l : Tx} {R : List Key → Prop}, is (keysD (l.map S1)) R ↔ R (l.map kc) := by
  have e : ∀ l : Tx, keysD (l.map S1) = some (l.map kc) := fun l => by
    induction l with
    | nil => rfl
    | cons c l ih => rw [List.map_cons, keysD, ih]; rfl
  exact fun {l R} => is_iff (e l)
theorem q_inK {c : Nat} {kvs : List (D × D)} {Q : D → Prop} : is (ap2 inD [S1 c, .dict kvs]) Q ↔ Q (.bool (kvGet kvs (kc c)).isSome) := is_iff rfl
theorem q_ixK {c : Nat} {kvs : List (D × D)} {Q : D → Prop} : is (ap2 ixD [.dict kvs, S1 c]) Q ↔ is (kvGet kvs (kc c)) Q := Iff.rfl
theorem dK_S1 {c : Nat} : dK (S1 c) = some (kc c) := rfl
theorem mg_app : ∀ (l : List (Nat × Tx)) (acc : List (D × D)), (∀ p ∈ l, ∀ q ∈ acc, dK q.1 ≠ some (kc p.1)) → (l.map (·.1)).Nodup → mgD acc (l.map fun p => (kc p.1, S p.2)) = acc ++ l.map fun p => (S1 p.1, S p.2)
  | [], acc, _, _ => by simp [mgD]
  | p :: l, acc, h, n => by
    rw [List.map_cons, mgD]
    rw [List.map_cons, List.nodup_cons] at n
    have e : putD acc (kc p.1) (S p.2) = acc ++ [(S1 p.1, S p.2)] := by
      unfold putD
      rw [if_neg]
      · rfl
      · rw [Bool.not_eq_true, List.any_eq_false]
        intro q hq
        rw [decide_eq_true_eq]
        exact h p (List.mem_cons_self ..) q hq
    rw [e, mg_app l _ (fun r hr q hq => ?_) n.2]
    · simp
    · rcases List.mem_append.mp hq with z | z
      · exact h r (List.mem_cons_of_mem _ hr) q z
      · rw [List.mem_singleton] at z
        rw [z]
        show dK (S1 p.1) ≠ _
        rw [dK_S1]
        intro z'
        exact n.1 (by rw [kc_inj.mp (Option.some.inj z')]; exact List.mem_map_of_mem hr)
def outL (f : Tx) (ms : List Tx) (c : Nat) : Tx := (ms[f.idxOf c]?).getD []
theorem kvz_get : ∀ {f : Tx} {ms : List Tx} {c : Nat}, ms.length = f.length → kvGet ((f.zip ms).map fun p => (S1 p.1, S p.2)) (kc c) = if c ∈ f then some (S (outL f ms c)) else none
  | [], _, _, _ => rfl
  | x :: f, [], _, h => nomatch h
  | x :: f, m :: ms, c, h => by
    rw [List.zip_cons_cons, List.map_cons, kvGet, dK_S1]
    by_cases e : x = c
    · subst e
      rw [if_pos rfl, if_pos (List.mem_cons_self ..)]
      unfold outL
      simp
    · rw [if_neg (fun z => e (kc_inj.mp (Option.some.inj z))), kvz_get (by simpa using h)]
      have e2 : outL (x :: f) (m :: ms) c = outL f ms c := by
        unfold outL
        rw [List.idxOf_cons, beq_false_of_ne e]
        simp
      rw [e2]
      by_cases hc : c ∈ f
      · rw [if_pos hc, if_pos (List.mem_cons_of_mem _ hc)]
      · rw [if_neg hc, if_neg (by simp [hc]; exact fun z => e z.symm)]
theorem known_get {f : Tx} {ms : List Tx} {c : Nat} (n : f.Nodup) (h : ms.length = f.length) : kvGet (mgD [] ((f.map kc).zip (ms.map S))) (kc c) = if c ∈ f then some (S (outL f ms c)) else none := by
  have e : (f.map kc).zip (ms.map S) = (f.zip ms).map fun p => (kc p.1, S p.2) := by
    rw [List.zip_map]; rfl
  rw [e, mg_app _ _ (fun _ _ _ m => absurd m List.not_mem_nil) ?_, List.nil_append, kvz_get h]
  rw [List.map_fst_zip (by omega)]
  exact n
end Ew

/-! PlLco: comprehensions over owned lists, plainly. -/
namespace Ew
open PySem L2
section
variable {α : Type} {g : Fg} {t : Fb} {f : Fn} {vs : List Nat} {W : En}
theorem lcOL_map {k : Nat} {e : α → D} (φ : α → D) {xs : List α} {Q : List D × En → Prop} (hW : look W k = some (.list (xs.map e))) (h : ∀ x ∈ xs, is (g (e x) W) fun E => is (t E) fun b => b.1 = true ∧ is (f b.2) fun r => r.1 = φ x ∧ wipeE r.2 vs = W) :
    ∀ {m : Nat}, m ≤ xs.length → Q ((xs.drop (xs.length - m)).map φ, W) → is (lcOL k xs.length g t f vs m W) Q := by
  have hk : lkL W k xs.length = some (xs.map e) := by
    unfold lkL
    rw [hW]
    show (if (xs.map e).length = xs.length then some (xs.map e) else none) = _
    rw [if_pos (List.length_map _)]
  intro m
  induction m generalizing Q with
  | zero =>
    intro _ q
    unfold lcOL
    rw [hk, is_map, is_some]
    simpa using q
  | succ m ih =>
    intro hm q
    unfold lcOL
    have hlt : xs.length - (m + 1) < xs.length := by omega
    have hd : xs.drop (xs.length - (m + 1)) = xs[xs.length - (m + 1)] :: xs.drop (xs.length - m) := by
      rw [List.drop_eq_getElem_cons hlt, show xs.length - (m + 1) + 1 = xs.length - m by omega]
    rw [hk, is_bind, is_some, is_bind, List.getElem?_map, List.getElem?_eq_getElem hlt]
    refine ⟨_, rfl, ?_⟩
    show is (Option.bind _ _) Q
    rw [is_bind]
    refine is_mono (h _ (List.getElem_mem hlt)) fun E hE => ?_
    rw [is_bind]
    refine is_mono hE fun b hb => ?_
    rw [if_pos hb.1, is_bind]
    refine is_mono hb.2 fun r hr => ?_
    rw [is_bind, hr.2]
    refine ih (by omega) ?_
    rw [is_some, hr.1]
    rw [hd] at q
    exact q
theorem lcO_map {k : Nat} {env : En} {e : α → D} (φ : α → D) {xs : List α} {Q : D × En → Prop} (h0 : look env k = some (.list (xs.map e))) (hl : xs.length ≤ 1000000) (ho : okV env vs = true) (hk : k ∉ vs) (hW : look (wipeE env vs) k = some (.list (xs.map e)))
    (h : ∀ x ∈ xs, is (g (e x) (wipeE env vs)) fun E => is (t E) fun b => b.1 = true ∧ is (f b.2) fun r => r.1 = φ x ∧ wipeE r.2 vs = wipeE env vs) (q : Q (.list (xs.map φ), restE env (wipeE env vs) vs)) : is (lcO k g t f vs env) Q := by
  unfold lcO
  rw [h0, is_bind, is_some]
  show is (if (xs.map e).length ≤ 1000000 ∧ okV env vs = true ∧ k ∉ vs then _ else none) Q
  rw [if_pos ⟨by rw [List.length_map]; exact hl, ho, hk⟩, is_bind]
  show is (lcOL k (xs.map e).length g t f vs (xs.map e).length (wipeE env vs)) _
  rw [List.length_map]
  refine lcOL_map φ hW h (Nat.le_refl _) ?_
  rw [is_some, Nat.sub_self, List.drop_zero]
  exact q
end
theorem pick_10 {x y : D} : pick [1, 0] [x, y] = [y, x] := rfl
/-! repr -/
def good (d : D) : Prop := (SeqAt.shaped d && d.showable && decide (d.shown.length ≤ Sz)) = true
def shw (d : D) : Tx := d.shown.cps.toList
theorem q_repr {d : D} (h : good d) {Q : D → Prop} : is (reprG [d]) Q ↔ Q (S (shw d)) := by
  have e : reprG [d] = some (S (shw d)) := by
    show (if (SeqAt.shaped d && d.showable && decide (d.shown.length ≤ Sz)) = true then some (PyData.str d.shown) else none) = _
    rw [if_pos (show (SeqAt.shaped d && PyData.showable d && decide ((PyData.shown d).length ≤ Sz)) = true from h), str_S]; rfl
  exact is_iff e
structure Nice (n k : Nat) (d : D) : Prop where
  lay : d.canLay0 = true
  dep : d.depth ≤ k
  wt : d.weight ≤ n
  sm : d.intsShort 13 = true
  show' : d.showable = true
theorem Nice.mono {n k n' k' : Nat} {d : D} (h : Nice n k d) (hn : n ≤ n') (hk : k ≤ k') : Nice n' k' d := ⟨h.lay, Nat.le_trans h.dep hk, Nat.le_trans h.wt hn, h.sm, h.show'⟩
theorem Nice.good {n k : Nat} {d : D} (h : Nice n k d) (hn : n ≤ 1048576) (hk : k ≤ 64) : good d := by
  have hl : PyData.layable0 d = true := by
    unfold PyData.layable0
    rw [Bool.and_eq_true, Bool.and_eq_true, decide_eq_true_eq, decide_eq_true_eq]
    exact ⟨⟨h.lay, Nat.le_trans h.dep hk⟩, Nat.le_trans (Nat.le_trans h.wt hn) (by decide)⟩
  have := PyData.shown_le_of_layable0 hl h.sm
  unfold Ew.good SeqAt.shaped
  rw [Bool.and_eq_true, Bool.and_eq_true, Bool.and_eq_true, decide_eq_true_eq, decide_eq_true_eq]
  exact ⟨⟨⟨h.lay, Nat.le_trans h.dep hk⟩, h.show'⟩, by rw [sz_eq]; omega⟩
theorem nice_all {n k : Nat} : ∀ {ds : List D}, (∀ d ∈ ds, Nice n k d) → PyData.canLayAll0 ds = true ∧ PyData.depthAll ds ≤ k ∧ PyData.weightAll ds ≤ (n + 1) * ds.length ∧ PyData.intsShortAll 13 ds = true ∧ PyData.showableAll ds = true
  | [], _ => ⟨rfl, Nat.zero_le _, Nat.zero_le _, rfl, rfl⟩
  | d :: ds, h => by
    have h1 := h d (List.mem_cons_self ..)
    obtain ⟨a, b, c, e, f⟩ := nice_all fun d' m => h d' (List.mem_cons_of_mem _ m)
    refine ⟨?_, ?_, ?_, ?_, ?_⟩
    · rw [PyData.canLayAll0, h1.lay, a]; rfl
    · rw [PyData.depthAll]; exact Nat.max_le.mpr ⟨h1.dep, b⟩
    · rw [PyData.weightAll, List.length_cons, Nat.mul_succ]
      have := h1.wt
      omega
    · rw [PyData.intsShortAll, h1.sm, e]; rfl
    · rw [PyData.showableAll, h1.show', f]; rfl
theorem nice_list {n k m : Nat} {ds : List D} (h : ∀ d ∈ ds, Nice n k d) (hm : ds.length ≤ m) : Nice ((n + 1) * m) (k + 1) (.list ds) := by
  obtain ⟨a, b, c, e, f⟩ := nice_all h
  refine ⟨by rw [PyData.canLay0]; exact a, by rw [PyData.depth]; omega, ?_, by rw [PyData.intsShort]; exact e, by rw [PyData.showable]; exact f⟩
  rw [PyData.weight]
  exact Nat.le_trans c (Nat.mul_le_mul_left _ hm)
theorem nice_tup {n k m : Nat} {ds : List D} (h : ∀ d ∈ ds, Nice n k d) (hm : ds.length ≤ m) : Nice ((n + 1) * m) (k + 1) (.tuple ds) := by
  obtain ⟨a, b, c, e, f⟩ := nice_all h
  refine ⟨by rw [PyData.canLay0]; exact a, by rw [PyData.depth]; omega, ?_, by rw [PyData.intsShort]; exact e, by rw [PyData.showable]; exact f⟩
  rw [PyData.weight]
  exact Nat.le_trans c (Nat.mul_le_mul_left _ hm)
theorem nice_S {n : Nat} {l : Tx} (h : ∀ c ∈ l, c < 0x110000) (hl : l.length ≤ n) : Nice n 0 (S l) := by
  refine ⟨?_, Nat.le_refl _, ?_, rfl, rfl⟩
  · show PyData.strOk ⟨l.toArray⟩ = true
    unfold PyData.strOk
    rw [Array.all_eq_true]
    intro i hi
    simp only [List.getElem_toArray, decide_eq_true_eq]
    exact h _ (List.getElem_mem _)
  · show (⟨l.toArray⟩ : Str).cps.size ≤ n
    simpa using hl
theorem nice_int {n : Nat} (h : n < 1000000000) : Nice 40 0 (.int (n : Nat)) := by
  have h1 : n.log2 < 30 ∨ n = 0 := by
    by_cases z : n = 0
    · exact .inr z
    · exact .inl ((Nat.log2_lt z).mpr (by omega))
  refine ⟨rfl, Nat.le_refl _, ?_, ?_, ?_⟩
  · rw [PyData.weight]
    split
    · omega
    · rcases h1 with z | z
      · simp only [Int.natAbs_natCast]; omega
      · subst z; simp
  · rw [PyData.intsShort, decide_eq_true_eq]
    exact PyData.shown_int_le (by simp only [Int.natAbs_natCast]; omega)
  · rw [PyData.showable, decide_eq_true_eq, Int.natAbs_natCast]
    rcases h1 with z | z
    · omega
    · subst z; decide
theorem nice_bool {n : Nat} {b : Bool} : Nice n 0 (.bool b) := ⟨rfl, Nat.le_refl _, Nat.zero_le _, rfl, rfl⟩
end Ew

/-! PlVal: values of any kind: ascii texts, small ints, nested, empty dicts; their repr. -/
namespace Ew
open PySem L2
mutual
def asc : D → Bool
  | .none => true
  | .bool _ => true
  | .int i => decide (i.natAbs < 1000000000)
  | .str z => z.cps.toList.all fun c => decide (c < 128)
  | .list ds => ascs ds
  | .tuple ds => ascs ds
  | .dict kvs => kvs.isEmpty
def ascs : List D → Bool
  | [] => true
  | d :: ds => asc d && ascs ds
end
theorem ascs_iff : ∀ {ds : List D}, ascs ds = true ↔ ∀ d ∈ ds, asc d = true
  | [] => by simp [ascs]
  | d :: ds => by simp [ascs, ascs_iff (ds := ds)]
mutual
theorem asc_cn : ∀ d : D, asc d = true → cnE d = true
  | .none, _ => rfl
  | .bool _, _ => rfl
  | .int _, _ => rfl
  | .str _, _ => rfl
  | .list ds, h => by rw [cnE]; exact ascs_cn ds (by simpa [asc] using h)
  | .tuple ds, h => by rw [cnE]; exact ascs_cn ds (by simpa [asc] using h)
  | .dict kvs, h => by simpa [asc, cnE] using h
theorem ascs_cn : ∀ ds : List D, ascs ds = true → cnEs ds = true
  | [], _ => rfl
  | d :: ds, h => by
    simp only [ascs, Bool.and_eq_true] at h
    simp [cnEs, asc_cn d h.1, ascs_cn ds h.2]
end
theorem int_ok {i : Int} (h : i.natAbs < 1000000000) : (PyData.int i).leavesShort 13 = true ∧ (PyData.int i).showable = true := by
  refine ⟨?_, ?_⟩
  · rw [PyData.leavesShort, decide_eq_true_eq]
    exact PyData.shown_int_le (by omega)
  · rw [PyData.showable, decide_eq_true_eq]
    by_cases z : i.natAbs = 0
    · rw [z]; decide
    · have := (Nat.log2_lt z (k := 30)).mpr (by omega)
      omega
mutual
theorem asc_lv : ∀ d : D, asc d = true → d.leavesShort 13 = true ∧ d.showable = true
  | .none, _ => ⟨rfl, rfl⟩
  | .bool _, _ => ⟨rfl, rfl⟩
  | .int _, h => int_ok (by simpa [asc] using h)
  | .str z, h => ⟨by
    rw [PyData.leavesShort, List.all_eq_true]
    intro c m
    have h' : (z.cps.toList.all fun c => decide (c < 128)) = true := by simpa only [asc] using h
    have := of_decide_eq_true (List.all_eq_true.mp h' c m)
    exact decide_eq_true (by omega), rfl⟩
  | .list ds, h => by rw [PyData.leavesShort, PyData.showable]; exact ascs_lv ds (by simpa [asc] using h)
  | .tuple ds, h => by rw [PyData.leavesShort, PyData.showable]; exact ascs_lv ds (by simpa [asc] using h)
  | .dict [], _ => ⟨rfl, rfl⟩
  | .dict (_ :: _), h => by simp [asc] at h
theorem ascs_lv : ∀ ds : List D, ascs ds = true → PyData.leavesShortAll 13 ds = true ∧ PyData.showableAll ds = true
  | [], _ => ⟨rfl, rfl⟩
  | d :: ds, h => by
    simp only [ascs, Bool.and_eq_true] at h
    have h1 := asc_lv d h.1
    have h2 := ascs_lv ds h.2
    exact ⟨by rw [PyData.leavesShortAll, h1.1, h2.1]; rfl, by rw [PyData.showableAll, h1.2, h2.2]; rfl⟩
end
structure Vd (n k : Nat) (d : D) : Prop where
  as : asc d = true
  dp : d.depth ≤ k
  wt : d.weight ≤ n
structure Vs (n k : Nat) (ds : List D) : Prop where
  as : ascs ds = true
  dp : PyData.depthAll ds ≤ k
  wt : PyData.weightAll ds ≤ n
def goodE (d : D) : Prop := (cnE d && d.showable && decide (d.depth ≤ 64) && decide (d.shown.length ≤ Sz)) = true
section
variable {n k m j : Nat} {d : D} {ds es : List D} {l : Tx}
theorem Vd.mono (h : Vd n k d) (hn : n ≤ m) (hk : k ≤ j) : Vd m j d := ⟨h.as, Nat.le_trans h.dp hk, Nat.le_trans h.wt hn⟩
theorem Vs.mono (h : Vs n k ds) (hn : n ≤ m) (hk : k ≤ j) : Vs m j ds := ⟨h.as, Nat.le_trans h.dp hk, Nat.le_trans h.wt hn⟩
theorem Vd.good (h : Vd n k d) (hn : n ≤ 1000000) (hk : k ≤ 64) : goodE d := by
  have h1 := asc_lv d h.as
  have h2 := PyData.shown_le 13 (by decide) d h1.1
  have h3 := h.wt
  unfold goodE
  rw [asc_cn d h.as, h1.2, Bool.and_eq_true, decide_eq_true_eq, Bool.and_eq_true, decide_eq_true_eq]
  exact ⟨⟨rfl, Nat.le_trans h.dp hk⟩, by rw [sz_eq]; omega⟩
theorem q_rep (h : goodE d) {Q : D → Prop} : is (repG [d]) Q ↔ Q (S (shw d)) := by
  have e : repG [d] = some (S (shw d)) := by
    show (if (cnE d && d.showable && decide (d.depth ≤ 64) && decide (d.shown.length ≤ Sz)) = true then some (PyData.str d.shown) else none) = _
    rw [if_pos (show (cnE d && d.showable && decide (d.depth ≤ 64) && decide (d.shown.length ≤ Sz)) = true from h), str_S]; rfl
  exact is_iff e
theorem Vd.none : Vd n k .none := ⟨rfl, Nat.zero_le _, Nat.zero_le _⟩
theorem Vd.bool {b : Bool} : Vd n k (.bool b) := ⟨rfl, Nat.zero_le _, Nat.zero_le _⟩
theorem Vd.int {i : Int} (h : i.natAbs < 1000000000) (hn : 30 ≤ n) : Vd n k (.int i) := by
  refine ⟨decide_eq_true h, Nat.zero_le _, ?_⟩
  rw [PyData.weight]
  split
  · omega
  · by_cases z : i.natAbs = 0
    · rw [z]; show Nat.log2 0 + 1 ≤ n; rw [show Nat.log2 0 = 0 by decide]; omega
    · have := (Nat.log2_lt z (k := 30)).mpr (by omega)
      omega
theorem Vd.emp : Vd n (k + 1) (.dict []) := ⟨rfl, by simp [PyData.depth, PyData.depthKv], by simp [PyData.weight, PyData.weightKv]⟩
theorem Vd.str (h : ∀ c ∈ l, c < 128) (hl : l.length ≤ n) : Vd n k (S l) := by
  refine ⟨?_, Nat.zero_le _, ?_⟩
  · show (l.all fun c => decide (c < 128)) = true
    rw [List.all_eq_true]; exact fun c m => decide_eq_true (h c m)
  · show (⟨l.toArray⟩ : Str).cps.size ≤ n
    simpa using hl
theorem Vd.unstr (h : Vd n k (S l)) : l.length ≤ n ∧ ∀ c ∈ l, c < 128 := by
  refine ⟨?_, fun c m => ?_⟩
  · have := h.wt
    have e : (S l).weight = l.length := by show (⟨l.toArray⟩ : Str).cps.size = _; simp
    omega
  · have h' : (l.all fun c => decide (c < 128)) = true := h.as
    exact of_decide_eq_true (List.all_eq_true.mp h' c m)
theorem Vs.tup (h : Vs n k ds) : Vd n (k + 1) (.tuple ds) := ⟨by rw [asc]; exact h.as, by rw [PyData.depth]; have := h.dp; omega, by rw [PyData.weight]; exact h.wt⟩
theorem Vs.lst (h : Vs n k ds) : Vd n (k + 1) (.list ds) := ⟨by rw [asc]; exact h.as, by rw [PyData.depth]; have := h.dp; omega, by rw [PyData.weight]; exact h.wt⟩
theorem Vd.untup (h : Vd n k (.tuple ds)) : 1 ≤ k ∧ Vs n (k - 1) ds := by
  have h1 := h.as; have h2 := h.dp; have h3 := h.wt
  rw [asc] at h1; rw [PyData.depth] at h2; rw [PyData.weight] at h3
  exact ⟨by omega, h1, by omega, h3⟩
theorem Vd.unlst (h : Vd n k (.list ds)) : 1 ≤ k ∧ Vs n (k - 1) ds := by
  have h1 := h.as; have h2 := h.dp; have h3 := h.wt
  rw [asc] at h1; rw [PyData.depth] at h2; rw [PyData.weight] at h3
  exact ⟨by omega, h1, by omega, h3⟩
theorem Vs.nil : Vs n k [] := ⟨rfl, Nat.zero_le _, Nat.zero_le _⟩
theorem Vs.cons (h : Vd n k d) (t : Vs m k ds) (e : n + m + 1 ≤ j) : Vs j k (d :: ds) := by
  refine ⟨by simp [ascs, h.as, t.as], by rw [PyData.depthAll]; exact Nat.max_le.mpr ⟨h.dp, t.dp⟩, ?_⟩
  rw [PyData.weightAll]
  have := h.wt; have := t.wt
  omega
theorem Vs.uncons (h : Vs n k (d :: ds)) : Vd n k d ∧ Vs n k ds := by
  have h1 := h.as; have h2 := h.dp; have h3 := h.wt
  simp only [ascs, Bool.and_eq_true] at h1
  rw [PyData.depthAll] at h2
  rw [PyData.weightAll] at h3
  exact ⟨⟨h1.1, by omega, by omega⟩, ⟨h1.2, by omega, by omega⟩⟩
theorem Vs.mem : ∀ {ds : List D}, Vs n k ds → ∀ d ∈ ds, Vd n k d
  | [], _, d, m => absurd m List.not_mem_nil
  | d :: ds, h, e, m => by
    rcases List.mem_cons.mp m with rfl | m
    · exact h.uncons.1
    · exact Vs.mem h.uncons.2 e m
theorem Vs.of {c : Nat} : ∀ {ds : List D}, (∀ d ∈ ds, Vd n k d) → ds.length ≤ c → Vs ((n + 1) * c) k ds
  | [], _, _ => Vs.nil
  | d :: ds, h, hc => by
    cases c with
    | zero => simp at hc
    | succ c =>
      exact Vs.cons (h d (List.mem_cons_self ..)) (Vs.of (c := c) (fun e m => h e (List.mem_cons_of_mem _ m)) (by simpa using hc)) (by rw [Nat.mul_succ]; omega)
theorem wAll_append : ∀ {ds es : List D}, PyData.weightAll (ds ++ es) = PyData.weightAll ds + PyData.weightAll es
  | [], es => by simp [PyData.weightAll]
  | d :: ds, es => by rw [List.cons_append, PyData.weightAll, PyData.weightAll, wAll_append]; omega
theorem dAll_append : ∀ {ds es : List D}, PyData.depthAll (ds ++ es) = max (PyData.depthAll ds) (PyData.depthAll es)
  | [], es => by simp [PyData.depthAll]
  | d :: ds, es => by rw [List.cons_append, PyData.depthAll, PyData.depthAll, dAll_append]; omega
theorem Vs.app (h : Vs n k ds) (t : Vs m k es) (e : n + m ≤ j) : Vs j k (ds ++ es) := by
  refine ⟨ascs_iff.mpr fun d hm => ?_, by rw [dAll_append]; exact Nat.max_le.mpr ⟨h.dp, t.dp⟩, by rw [wAll_append]; have := h.wt; have := t.wt; omega⟩
  rcases List.mem_append.mp hm with z | z
  · exact ascs_iff.mp h.as d z
  · exact ascs_iff.mp t.as d z
theorem Vs.unapp (h : Vs n k (ds ++ es)) : Vs n k ds ∧ Vs n k es := by
  have h1 := ascs_iff.mp h.as; have h2 := h.dp; have h3 := h.wt
  rw [dAll_append] at h2
  rw [wAll_append] at h3
  exact ⟨⟨ascs_iff.mpr fun d m => h1 d (List.mem_append_left _ m), by omega, by omega⟩, ⟨ascs_iff.mpr fun d m => h1 d (List.mem_append_right _ m), by omega, by omega⟩⟩
theorem Vs.take (h : Vs n k ds) (i : Nat) : Vs n k (ds.take i) := by
  rw [← List.take_append_drop i ds] at h
  exact h.unapp.1
theorem Vs.drop (h : Vs n k ds) (i : Nat) : Vs n k (ds.drop i) := by
  rw [← List.take_append_drop i ds] at h
  exact h.unapp.2
theorem wAll_rev : ∀ {ds : List D}, PyData.weightAll ds.reverse = PyData.weightAll ds
  | [] => rfl
  | d :: ds => by rw [List.reverse_cons, wAll_append, wAll_rev, PyData.weightAll, PyData.weightAll, PyData.weightAll]; omega
theorem dAll_rev : ∀ {ds : List D}, PyData.depthAll ds.reverse = PyData.depthAll ds
  | [] => rfl
  | d :: ds => by rw [List.reverse_cons, dAll_append, dAll_rev, PyData.depthAll, PyData.depthAll, PyData.depthAll]; omega
theorem Vs.rev (h : Vs n k ds) : Vs n k ds.reverse :=
  ⟨ascs_iff.mpr fun d m => ascs_iff.mp h.as d (List.mem_reverse.mp m), by rw [dAll_rev]; exact h.dp, by rw [wAll_rev]; exact h.wt⟩
theorem Vs.len : ∀ {ds : List D}, Vs n k ds → ds.length ≤ PyData.weightAll ds
  | [], _ => Nat.zero_le _
  | d :: ds, h => by
    have := Vs.len h.uncons.2
    rw [PyData.weightAll, List.length_cons]
    omega
theorem Vs.le (h : Vs n k ds) : ds.length ≤ n := Nat.le_trans h.len h.wt
end
/-! a text's repr tells it -/
theorem shw_S {t : Tx} : shw (S t) = (reprText ⟨t.toArray⟩).cps.toList := by show (PyData.str ⟨t.toArray⟩).shown.cps.toList = _; rw [PyData.shown_str]
theorem rt_list (x : Str) : (reprText x).cps.toList = reprQuote x :: (x.cps.toList.flatMap fun c => Builtin.Str.reprChar (reprQuote x) c) ++ [reprQuote x] := by
  unfold reprText
  simp only [Array.toList_push]
  congr 1
  rw [← Array.foldl_toList]
  have key : ∀ (l : List Nat) (acc : Array Nat), (l.foldl (fun out c => out ++ (Builtin.Str.reprChar (reprQuote x) c).toArray) acc).toList = acc.toList ++ l.flatMap fun c => Builtin.Str.reprChar (reprQuote x) c := fun l => by
    induction l with
    | nil => intro acc; simp
    | cons c l ih => intro acc; rw [List.foldl_cons, ih, List.flatMap_cons]; simp
  rw [key]
  rfl
theorem rc_or (q c : Nat) : Builtin.Str.reprChar q c = [c] ∨ ∃ r, Builtin.Str.reprChar q c = 92 :: r := by
  unfold Builtin.Str.reprChar
  simp only
  repeat' split
  all_goals first | exact .inl rfl | exact .inr ⟨_, rfl⟩
theorem fm_plain {q : Nat} : ∀ {l t : Tx}, (l.flatMap fun c => Builtin.Str.reprChar q c) = t → 92 ∉ t → l = t
  | [], t, h, _ => by simpa using h
  | c :: l, t, h, n => by
    rw [List.flatMap_cons] at h
    rcases rc_or q c with e | ⟨r, e⟩
    · rw [e] at h
      subst h
      have := fm_plain (q := q) (l := l) rfl (fun z => n (by simp [z]))
      simp only [List.cons_append, List.nil_append]
      rw [← this]
    · rw [e] at h
      subst h
      exact absurd (by simp) n
theorem head_int {i : Int} {r : Tx} : shw (.int i) ≠ 39 :: r := fun h => by
  have := PyProof.Rows.int_text_free' 39 ⟨by decide, by decide⟩ i
  unfold shw at h
  rw [PyData.shown_int] at h
  rw [h] at this
  simp at this
theorem str_app (a b : Str) : (a ++ b).cps.toList = a.cps.toList ++ b.cps.toList := by
  show (a.cps ++ b.cps).toList = _
  simp
theorem shw_eq {t : Tx} (ht : shw (S t) = 39 :: t ++ [39]) (hn : 92 ∉ t) {d : D} (h : shw d = shw (S t)) : d = S t := by
  rw [ht] at h
  cases d with
  | none => unfold shw at h; rw [PyData.shown_none] at h; exact absurd (List.cons.inj h).1 (by decide)
  | bool b => unfold shw at h; rw [PyData.shown_bool] at h; cases b <;> exact absurd (List.cons.inj h).1 (by decide)
  | int i => exact absurd h head_int
  | str x =>
    have e : shw (.str x) = (reprText x).cps.toList := by unfold shw; rw [PyData.shown_str]
    rw [e, rt_list] at h
    have h1 := (List.cons.inj h).1
    have h2 := (List.cons.inj h).2
    rw [h1] at h2
    have h3 := List.append_cancel_right h2
    have h4 := fm_plain h3 hn
    rw [str_S, h4]
  | list ds =>
    unfold shw at h
    rw [PyData.shown_list, str_app, str_app, show ("[" : Str).cps.toList = [91] by decide +kernel] at h
    exact absurd (List.cons.inj h).1 (by decide)
  | tuple ds =>
    unfold shw at h
    rw [PyData.shown_tuple, str_app, str_app, show ("(" : Str).cps.toList = [40] by decide +kernel] at h
    exact absurd (List.cons.inj h).1 (by decide)
  | dict ds =>
    unfold shw at h
    rw [PyData.shown_dict, str_app, str_app, show ("{" : Str).cps.toList = [123] by decide +kernel] at h
    exact absurd (List.cons.inj h).1 (by decide)
/-- d is just this text -/
def eqS (t : Tx) : D → Bool
  | .str z => decide (z.cps.toList = t)
  | _ => false
theorem eqS_iff {t : Tx} {d : D} : eqS t d = true ↔ d = S t := by
  cases d with
  | str z =>
    rw [eqS, decide_eq_true_eq, str_S]
    refine ⟨fun h => by rw [h], fun h => ?_⟩
    unfold S at h
    have := congrArg (fun d => match d with | PyData.str z => z.cps.toList | _ => []) h
    simpa using this
  | _ => simp [eqS, S]
theorem shw_dec {t : Tx} (ht : shw (S t) = 39 :: t ++ [39]) (hn : 92 ∉ t) {d : D} : decide (shw d = shw (S t)) = eqS t d := by
  rw [Bool.eq_iff_iff, decide_eq_true_eq, eqS_iff]
  exact ⟨shw_eq ht hn, fun h => by rw [h]⟩
/-! which type -/
theorem isS_or (d : D) : (∃ l, d = S l) ∨ (isA .str d = false ∧ ∀ t, eqS t d = false) := by
  cases d with
  | str z => exact .inl ⟨_, str_S z⟩
  | _ => exact .inr ⟨rfl, fun _ => rfl⟩
theorem isT_or (d : D) : (∃ l, d = .tuple l) ∨ isA .tup d = false := by
  cases d with
  | tuple z => exact .inl ⟨_, rfl⟩
  | _ => exact .inr rfl
section
variable {Q : D → Prop} {a : Tx} {xs : List D} {env : En}
theorem q_rvS : is (rvD (S a)) Q ↔ a.length ≤ Sz ∧ Q (S a.reverse) := by
  have e : rvD (S a) = if a.length ≤ Sz then some (S a.reverse) else none := by
    show (if (⟨a.toArray⟩ : Str).length ≤ Sz then some (PyData.str (revS ⟨a.toArray⟩)) else none) = _
    have : (⟨a.toArray⟩ : Str).length = a.length := by simp [Str.length]
    rw [this]
    unfold revS S
    rfl
  exact is_ifc e
theorem q_rvT : is (rvD (.tuple xs)) Q ↔ Q (.tuple xs.reverse) := is_some
theorem q_rvL : is (rvD (.list xs)) Q ↔ Q (.list xs.reverse) := is_some
theorem w_emD {Q : D × En → Prop} : is (emD env) Q ↔ Q (.dict [], env) := is_some
theorem q_ext {R : D × D → Prop} {ys : List D} : is (extG (.list xs) [.list ys]) R ↔ xs.length + ys.length ≤ Sz ∧ R (.none, .list (xs ++ ys)) := is_ifc rfl
theorem q_isN {d : D} : is (ap2 isD [d, .none]) Q ↔ Q (.bool (isNone d)) := is_iff (by cases d <;> rfl)
theorem q_isntN {d : D} : is (ap2 isntD [d, .none]) Q ↔ Q (.bool (!isNone d)) := is_iff (by cases d <;> rfl)
theorem q_upp (h : ∀ c ∈ a, c < 128) (hl : a.length ≤ 5592405) : is (uppG (S a) []) Q ↔ Q (S (a.map PyProof.Rows.up1)) := by
  have e0 : Txt.upper ⟨a.toArray⟩ = ⟨(a.map PyProof.Rows.up1).toArray⟩ := by
    rw [PyProof.Rows.upper_ascii (x := ⟨a.toArray⟩) (fun c hc => h c (by simpa using hc))]
    congr 1
    simp
  have e : uppG (S a) [] = some (S (a.map PyProof.Rows.up1)) := by
    show (if (⟨a.toArray⟩ : Str).length ≤ 5592405 then some (PyData.str (Txt.upper ⟨a.toArray⟩)) else none) = _
    have : (⟨a.toArray⟩ : Str).length = a.length := by simp [Str.length]
    rw [this, if_pos hl, e0]; rfl
  exact is_iff e
end
/-! the operators that ask nothing of texts -/
section
variable {Q : D → Prop} {a b : Tx} {i j : Int} {g h : G2} {x y d : D} {xs ys : List D}
theorem q_or (e : g x y = some d) : is (ap2 (orG g h) [x, y]) Q ↔ Q d := is_iff (by show (g x y).or (h x y) = some d; rw [e]; rfl)
theorem q_eqSE : is (ap2 eqE [S a, S b]) Q ↔ Q (.bool (decide (a = b))) := q_or (is_eq (q_eqS.mpr rfl))
theorem q_neSE : is (ap2 neE [S a, S b]) Q ↔ Q (.bool (!decide (a = b))) := q_or (is_eq (q_neS.mpr rfl))
theorem q_eqIE : is (ap2 eqE [.int i, .int j]) Q ↔ Q (.bool (decide (i = j))) := q_or (is_eq (q_eqI.mpr rfl))
theorem q_neIE : is (ap2 neE [.int i, .int j]) Q ↔ Q (.bool (!decide (i = j))) := q_or (is_eq (q_neI.mpr rfl))
theorem q_eqIE' : is (eqE (.int i) (.int j)) Q ↔ Q (.bool (decide (i = j))) := q_eqIE
theorem q_in1E {c : Nat} : is (ap2 inE [S1 c, S a]) Q ↔ Q (.bool (decide (c ∈ a))) := q_or rfl
theorem q_ni1E {c : Nat} : is (ap2 niE [S1 c, S a]) Q ↔ Q (.bool (!decide (c ∈ a))) := q_or rfl
theorem q_inKE {c : Nat} {kvs : List (D × D)} : is (ap2 inE [S1 c, .dict kvs]) Q ↔ Q (.bool (kvGet kvs (kc c)).isSome) := q_or rfl
theorem eqv_S : PyData.eqv (S a) (S b) = decide (a = b) := by
  unfold S
  rw [PyData.eqv]
  rw [Bool.eq_iff_iff, beq_iff_eq, decide_eq_true_eq]
  exact ⟨fun h => by have := congrArg (fun s : Str => s.cps.toList) h; simpa using this, fun h => by rw [h]⟩
theorem plain_S : (S a).plain = true := rfl
theorem plains_S : ∀ {l : List Tx}, PyData.plainAll (l.map S) = true
  | [] => rfl
  | t :: l => by rw [List.map_cons, PyData.plainAll, plains_S, plain_S]; rfl
theorem any_S {l : List Tx} : ((l.map S).any fun z => PyData.eqv z (S a)) = decide (a ∈ l) := by
  rw [List.any_map, Bool.eq_iff_iff, List.any_eq_true, decide_eq_true_eq]
  simp only [Function.comp, eqv_S, decide_eq_true_eq]
  exact ⟨fun ⟨t, m, e⟩ => e ▸ m, fun m => ⟨a, m, rfl⟩⟩
theorem inG_S {s : Bool → Bool} {l : List Tx} : ((inG s (S a) (.list (l.map S))).or (inP s (S a) (.list (l.map S)))) = some (.bool (s (decide (a ∈ l)))) := by
  have e2 : inP s (S a) (.list (l.map S)) = some (.bool (s (decide (a ∈ l)))) := by
    show (if ((S a).plain && PyData.plainAll (l.map S) && decide ((S a).depth ≤ 60)) = true then some (PyData.bool (s ((l.map S).any fun z => PyData.eqv z (S a)))) else none) = _
    rw [plains_S, plain_S, any_S]; exact if_pos rfl
  have e1 : inG s (S a) (.list (l.map S)) = none ∨ inG s (S a) (.list (l.map S)) = some (.bool (s (decide (a ∈ l)))) := by
    show (if (SeqAt.shaped (S a) && SeqAt.shaped (.list (l.map S))) = true then some (PyData.bool (s ((l.map S).any fun z => PyData.eqv z (S a)))) else none) = _ ∨ (if (SeqAt.shaped (S a) && SeqAt.shaped (.list (l.map S))) = true then some (PyData.bool (s ((l.map S).any fun z => PyData.eqv z (S a)))) else none) = _
    split
    · exact .inr (by rw [any_S])
    · exact .inl rfl
  rcases e1 with e | e
  · rw [e, e2]; rfl
  · rw [e]; rfl
theorem inG_St {s : Bool → Bool} {l : List Tx} : ((inG s (S a) (.tuple (l.map S))).or (inP s (S a) (.tuple (l.map S)))) = some (.bool (s (decide (a ∈ l)))) := by
  have e2 : inP s (S a) (.tuple (l.map S)) = some (.bool (s (decide (a ∈ l)))) := by
    show (if ((S a).plain && PyData.plainAll (l.map S) && decide ((S a).depth ≤ 60)) = true then some (PyData.bool (s ((l.map S).any fun z => PyData.eqv z (S a)))) else none) = _
    rw [plains_S, plain_S, any_S]; exact if_pos rfl
  have e1 : inG s (S a) (.tuple (l.map S)) = none ∨ inG s (S a) (.tuple (l.map S)) = some (.bool (s (decide (a ∈ l)))) := by
    show (if (SeqAt.shaped (S a) && SeqAt.shaped (.tuple (l.map S))) = true then some (PyData.bool (s ((l.map S).any fun z => PyData.eqv z (S a)))) else none) = _ ∨ (if (SeqAt.shaped (S a) && SeqAt.shaped (.tuple (l.map S))) = true then some (PyData.bool (s ((l.map S).any fun z => PyData.eqv z (S a)))) else none) = _
    split
    · exact .inr (by rw [any_S])
    · exact .inl rfl
  rcases e1 with e | e
  · rw [e, e2]; rfl
  · rw [e]; rfl
theorem q_inL {l : List Tx} : is (ap2 inE [S a, .list (l.map S)]) Q ↔ Q (.bool (decide (a ∈ l))) := is_iff inG_S
theorem q_niL {l : List Tx} : is (ap2 niE [S a, .list (l.map S)]) Q ↔ Q (.bool (!decide (a ∈ l))) := is_iff inG_S
theorem q_inT {l : List Tx} : is (ap2 inE [S a, .tuple (l.map S)]) Q ↔ Q (.bool (decide (a ∈ l))) := is_iff inG_St
theorem q_niT {l : List Tx} : is (ap2 niE [S a, .tuple (l.map S)]) Q ↔ Q (.bool (!decide (a ∈ l))) := is_iff inG_St
end
/-! comprehensions and loops over things as they are -/
section
variable {g : Fg} {t : Fb} {f : Fn} {vs : List Nat} {W : En} {body : Fs}
theorem lc_map1 {xs : List D} (φ : D → D) {Q : List D × En → Prop} (h : ∀ x ∈ xs, is (g x W) fun E => is (t E) fun b => b.1 = true ∧ is (f b.2) fun r => r.1 = φ x ∧ wipeE r.2 vs = W) (q : Q (xs.map φ, W)) : is (lcL g t f vs xs W) Q := by
  have := lc_map (e := id) φ h q
  rwa [List.map_id] at this
/-- a loop each turn of which goes on, or gives the answer -/
theorem for_ret {α : Type} {e : α → D} (I : En → Prop) (φ : α → Option D) : ∀ {xs : List α} {W : En} {Q : Fl × En → Prop}, I W → (∀ x ∈ xs, ∀ W, I W → is (g (e x) W) fun E => is (body E) fun r => match φ x with
      | none => (r.1 = .nx ∨ r.1 = .ct) ∧ I r.2
      | some d => r.1 = .rt d ∧ I r.2) → (∀ E, I E → xs.findSome? φ = none → Q (.nx, E)) → (∀ d E, I E → xs.findSome? φ = some d → Q (.rt d, E)) → is (forL g body (xs.map e) W) Q
  | [], W, Q, i, _, q, _ => w_forL0.2 (q W i rfl)
  | x :: xs, W, Q, i, h, q1, q2 => by
    rw [List.map_cons, w_forL]
    refine is_mono (h x (List.mem_cons_self ..) W i) fun E he => is_mono he fun r hr => ?_
    obtain ⟨fl, e2⟩ := r
    cases hx : φ x with
    | none =>
      rw [hx] at hr
      have q1' : ∀ E, I E → xs.findSome? φ = none → Q (.nx, E) := fun E hE hf => q1 E hE (by rw [List.findSome?_cons, hx]; exact hf)
      have q2' : ∀ d E, I E → xs.findSome? φ = some d → Q (.rt d, E) := fun d E hE hf => q2 d E hE (by rw [List.findSome?_cons, hx]; exact hf)
      rcases hr.1 with z | z <;> (have z' : fl = _ := z; subst z'; exact for_ret I φ hr.2 (fun y m => h y (List.mem_cons_of_mem _ m)) q1' q2')
    | some d =>
      rw [hx] at hr
      have z : fl = .rt d := hr.1
      subst z
      exact q2 d e2 hr.2 (by rw [List.findSome?_cons, hx])
end
/-! a thing is equal to itself -/
section
variable {Q : D → Prop} {d : D}
theorem eqD_self (h : d.plain = true) : eqD d d = none ∨ eqD d d = some (.bool true) := by
  have e := SeqAt.eqv_refl_plain d h
  unfold eqD orG
  cases d with
  | str z => exact .inr (by show (some (PyData.bool (decide (z = z)))).or _ = _; rw [decide_eq_true rfl]; rfl)
  | _ =>
    unfold eqH
    rw [e]
    show (Option.none).or _ = _ ∨ (Option.none).or _ = _
    rw [Option.none_or]
    split
    · exact .inr rfl
    · exact .inl rfl
theorem neD_self (h : d.plain = true) : neD d d = none ∨ neD d d = some (.bool false) := by
  have e := SeqAt.eqv_refl_plain d h
  unfold neD orG
  cases d with
  | str z => exact .inr (by show (some (PyData.bool (!decide (z = z)))).or _ = _; rw [decide_eq_true rfl]; rfl)
  | _ =>
    unfold neH
    rw [e]
    show (Option.none).or _ = _ ∨ (Option.none).or _ = _
    rw [Option.none_or]
    split
    · exact .inr rfl
    · exact .inl rfl
theorem q_eqself (h : d.plain = true) (hd : d.depth ≤ 60) : is (ap2 eqE [d, d]) Q ↔ Q (.bool true) := by
  have e2 : eqP id d d = some (.bool true) := by
    unfold eqP
    rw [h, decide_eq_true hd, SeqAt.eqv_refl_plain d h]
    rfl
  refine is_iff ?_
  show (eqD d d).or (eqP id d d) = _
  rcases eqD_self h with e | e
  · rw [e, e2]; rfl
  · rw [e]; rfl
theorem q_neself (h : d.plain = true) (hd : d.depth ≤ 60) : is (ap2 neE [d, d]) Q ↔ Q (.bool false) := by
  have e2 : eqP not d d = some (.bool false) := by
    unfold eqP
    rw [h, decide_eq_true hd, SeqAt.eqv_refl_plain d h]
    rfl
  refine is_iff ?_
  show (neD d d).or (eqP not d d) = _
  rcases neD_self h with e | e
  · rw [e, e2]; rfl
  · rw [e]; rfl
theorem plains_B : ∀ {α : Type} {f : α → Bool} {l : List α}, PyData.plainAll (l.map fun x => .bool (f x)) = true
  | _, _, [] => rfl
  | _, f, x :: l => by rw [List.map_cons, PyData.plainAll, plains_B]; rfl
theorem depths_B : ∀ {α : Type} {f : α → Bool} {l : List α}, PyData.depthAll (l.map fun x => .bool (f x)) = 0
  | _, _, [] => rfl
  | _, f, x :: l => by rw [List.map_cons, PyData.depthAll, depths_B]; rfl
end
/-! times -/
theorem mulAr : ∀ (n : Nat) (l : Tx) (acc : Array Nat), (List.replicate n l.toArray).foldl (· ++ ·) acc = acc ++ (List.replicate n l).flatten.toArray
  | 0, _, acc => by simp
  | n + 1, l, acc => by
    rw [List.replicate_succ, List.foldl_cons, mulAr n, List.replicate_succ]
    apply Array.toList_inj.mp
    simp
theorem mul_Sl {l : Tx} {n : Nat} : Txt.mul ⟨l.toArray⟩ (n : Int) = ⟨(List.replicate n l).flatten.toArray⟩ := by
  unfold Txt.mul
  by_cases h0 : (n : Int) < 1
  · have : n = 0 := by omega
    subst this
    rfl
  · rw [if_neg h0]
    by_cases h1 : ((n : Int) == 1 || (⟨l.toArray⟩ : Str).length == 0) = true
    · rw [if_pos h1]
      rw [Bool.or_eq_true, beq_iff_eq, beq_iff_eq] at h1
      rcases h1 with h1 | h1
      · have : n = 1 := by omega
        subst this
        simp
      · have : l = [] := List.eq_nil_of_length_eq_zero (by simpa [Str.length] using h1)
        subst this
        simp
    · rw [if_neg h1, Int.toNat_natCast]
      show (⟨(List.replicate n l.toArray).foldl (· ++ ·) #[]⟩ : Str) = _
      rw [mulAr]
      simp
theorem q_mulSl {l : Tx} {i : Int} {Q : D → Prop} (n : Nat) (hi : i = n) (h : n ≤ 1000000) (hl : l.length ≤ 10) : is (ap2 mulD [S l, .int i]) Q ↔ Q (S (List.replicate n l).flatten) := by
  subst hi
  have e : ap2 mulD [S l, .int (n : Int)] = some (S (List.replicate n l).flatten) := by
    show (none : Option D).or ((if decide (0 ≤ (n : Int) ∧ (n : Int) ≤ 1000000 ∧ (⟨l.toArray⟩ : Str).length ≤ 10) = true then some (PyData.str (Txt.mul ⟨l.toArray⟩ (n : Int))) else none).or _) = _
    rw [if_pos (decide_eq_true ⟨by omega, by omega, by simpa [Str.length] using hl⟩), mul_Sl]; rfl
  exact is_iff e
theorem q_mulTn {xs : List D} {i : Int} {Q : D → Prop} (n : Nat) (hi : i = n) (h : n ≤ 1000) (hl : xs.length ≤ 1000) : is (ap2 mulD [.tuple xs, .int i]) Q ↔ Q (.tuple (List.replicate n xs).flatten) := by
  subst hi
  have e : ap2 mulD [.tuple xs, .int (n : Int)] = some (.tuple (List.replicate n xs).flatten) := by
    show (none : Option D).or ((none : Option D).or ((if okRep xs.length (n : Int) = true then some (PyData.tuple (repD (n : Int) xs)) else none).or _)) = _
    rw [if_pos (by unfold okRep; exact decide_eq_true ⟨by omega, by omega, hl⟩)]; rfl
  exact is_iff e
theorem q_mulLn {xs : List D} {i : Int} {Q : D → Prop} (n : Nat) (hi : i = n) (h : n ≤ 1000) (hl : xs.length ≤ 1000) : is (ap2 mulD [.list xs, .int i]) Q ↔ Q (.list (List.replicate n xs).flatten) := by
  subst hi
  have e : ap2 mulD [.list xs, .int (n : Int)] = some (.list (List.replicate n xs).flatten) := by
    show (none : Option D).or ((none : Option D).or ((none : Option D).or (if okRep xs.length (n : Int) = true then some (PyData.list (repD (n : Int) xs)) else none))) = _
    rw [if_pos (by unfold okRep; exact decide_eq_true ⟨by omega, by omega, hl⟩)]; rfl
  exact is_iff e
theorem for_inv1 {g : Fg} {body : Fs} (I : List D → List D → En → Prop) {b a : List D} {W : En} {Q : Fl × En → Prop} (h0 : I b a W) (h : ∀ b x a W, I b (x :: a) W → is (g x W) fun E => is (body E) fun r => (r.1 = .nx ∨ r.1 = .ct) ∧ I (b ++ [x]) a r.2) (q : ∀ E, I (b ++ a) [] E → Q (.nx, E)) : is (forL g body a W) Q := by
  have := for_inv (e := id) I h0 h q
  rwa [List.map_id] at this
theorem for_ret1 {g : Fg} {body : Fs} (I : En → Prop) (φ : D → Option D) {xs : List D} {W : En} {Q : Fl × En → Prop} (h0 : I W) (h : ∀ x ∈ xs, ∀ W, I W → is (g x W) fun E => is (body E) fun r => match φ x with
      | none => (r.1 = .nx ∨ r.1 = .ct) ∧ I r.2
      | some d => r.1 = .rt d ∧ I r.2) (q1 : ∀ E, I E → xs.findSome? φ = none → Q (.nx, E)) (q2 : ∀ d E, I E → xs.findSome? φ = some d → Q (.rt d, E)) : is (forL g body xs W) Q := by
  have := for_ret (e := id) I φ h0 h q1 q2
  rwa [List.map_id] at this
/-- a loop whose every turn goes on, under an invariant -/
theorem for_go {g : Fg} {body : Fs} (I : En → Prop) {xs : List D} {W : En} {Q : Fl × En → Prop} (h0 : I W) (h : ∀ x ∈ xs, ∀ W, I W → is (g x W) fun E => is (body E) fun r => (r.1 = .nx ∨ r.1 = .ct) ∧ I r.2) (q : ∀ E, I E → Q (.nx, E)) : is (forL g body xs W) Q := by
  refine for_ret1 I (fun _ => none) h0 h (fun E i _ => q E i) (fun d E i e => ?_)
  have : xs.findSome? (fun _ => (none : Option D)) = none := by rw [List.findSome?_eq_none_iff]; intros; rfl
  rw [this] at e; cases e
theorem w_isi2F {t u : Ty} {f : Fn} {env : En} {Q : D × En → Prop} : is (isi2F t u f env) Q ↔ is (f env) fun x => Q (.bool (isA t x.1 || isA u x.1), x.2) := by simp only [isi2F, is_bind, is_some]
theorem okG_iff {a b : Int} : okG a b = true ↔ (-(2 ^ 62) ≤ a ∧ a < 2 ^ 62) ∧ (-(2 ^ 62) ≤ b ∧ b < 2 ^ 62) ∧ (b - a).toNat ≤ 1000000 := by
  unfold okG
  rw [Bool.and_eq_true, Bool.and_eq_true, ok_r, ok_r, decide_eq_true_eq]
  exact ⟨fun h => ⟨h.1.1, h.1.2, h.2⟩, fun h => ⟨⟨h.1, h.2.1⟩, h.2.2⟩⟩
theorem w_lrF1 {f : Fn} {env : En} {Q : D × En → Prop} : is (lrF1 f env) Q ↔ is (f env) fun x => is (io x.1) fun n => okG 0 n = true ∧ Q (.list (rngL 0 n.toNat), x.2) := by
  unfold lrF1
  rw [is_bind]
  refine is_congr fun x => ?_
  obtain ⟨d, e⟩ := x
  cases d <;> simp only [io, is_none, is_some, is_if]
theorem w_lrF2 {f g : Fn} {env : En} {Q : D × En → Prop} : is (lrF2 f g env) Q ↔ is (f env) fun x => is (g x.2) fun y => is (io x.1) fun a => is (io y.1) fun b => okG a b = true ∧ Q (.list (rngL a (b - a).toNat), y.2) := by
  unfold lrF2
  rw [is_bind]
  refine is_congr fun x => ?_
  rw [is_bind]
  refine is_congr fun y => ?_
  obtain ⟨d, e⟩ := x
  obtain ⟨d2, e2⟩ := y
  cases d <;> simp only [io, is_none, is_some]
  cases d2 <;> simp only [io, is_none, is_some, is_if]
end Ew

/-! PlNst: blocks with a list of lists, by conditions. -/
namespace Ew
open PySem L2
variable {env : En} {i k : Nat} {ss : List Sl} {Q : Fl × En → Prop}
theorem w_nstS {f : Fm} {g : List Sl → Fs} : is (nstS i f g env) Q ↔ is (f env) fun y => y.1.length ≤ 1000 ∧ is (put y.2 i .un) fun e => is (g y.1 e) Q := by
  unfold nstS
  rw [is_bind]
  refine is_congr fun y => ?_
  by_cases h : y.1.length ≤ 1000
  · rw [if_pos h, is_bind]; exact ⟨fun z => ⟨h, z⟩, fun z => z.2⟩
  · rw [if_neg h, is_none]; exact ⟨False.elim, fun z => h z.1⟩
theorem w_nifS {f : Fn} {h : Fs} {g : List Sl → Fs} : is (nifS f h g ss env) Q ↔ is (repG [.list (ss.map slD')]) fun s => is (f env) fun y => is (ap2 neE [s, y.1]) fun d => is (bo d) fun b => if b = true then is (h y.2) fun z => z.1 ≠ .nx ∧ Q z else is (g ss y.2) Q := by
  unfold nifS
  rw [is_bind]
  refine is_congr fun s => ?_
  rw [is_bind]
  refine is_congr fun y => ?_
  rw [is_bind]
  refine is_congr fun d => ?_
  cases d with
  | bool b =>
    cases b
    · exact ⟨fun z => ⟨false, rfl, by dsimp only; rw [if_neg Bool.false_ne_true]; exact z⟩, fun ⟨_, e, z⟩ => by cases e; rw [if_neg Bool.false_ne_true] at z; exact z⟩
    · refine Iff.trans ?_ ⟨fun z => ⟨true, rfl, by dsimp only; rw [if_pos rfl]; exact z⟩, fun ⟨_, e, z⟩ => by cases e; rw [if_pos rfl] at z; exact z⟩
      dsimp only
      rw [is_bind]
      refine is_congr fun ⟨fl, e⟩ => ?_
      cases fl <;> simp [is_some, is_none]
  | none => exact ⟨fun z => (by cases is_none.mp z), fun ⟨_, e, _⟩ => by cases e⟩
  | int _ => exact ⟨fun z => (by cases is_none.mp z), fun ⟨_, e, _⟩ => by cases e⟩
  | str _ => exact ⟨fun z => (by cases is_none.mp z), fun ⟨_, e, _⟩ => by cases e⟩
  | list _ => exact ⟨fun z => (by cases is_none.mp z), fun ⟨_, e, _⟩ => by cases e⟩
  | tuple _ => exact ⟨fun z => (by cases is_none.mp z), fun ⟨_, e, _⟩ => by cases e⟩
  | dict _ => exact ⟨fun z => (by cases is_none.mp z), fun ⟨_, e, _⟩ => by cases e⟩
theorem w_nappS {f : Fn} {g : List Sl → Fs} {ds : List D} (h : ss[k]? = some (.ow (.list ds))) (hl : ds.length < Sz) : is (nappS k f g ss env) Q ↔ is (f env) fun y => is (g (ss.set k (.ow (.list (ds ++ [y.1])))) y.2) Q := by
  unfold nappS
  rw [is_bind]
  refine is_congr fun y => ?_
  rw [h]
  dsimp only
  rw [if_pos hl]
end Ew

/-! PlSet: while, pop at a place, sorted texts, how many different, by conditions. -/
namespace Ew
open PySem L2
section
variable {c : Fb} {body : Fs} {Q : Fl × En → Prop}
theorem whL_inv (I : Nat → En → Prop) {N : Nat} (h : ∀ n W, n ≤ N → I n W → is (c W) fun b => if b.1 = true then is (body b.2) fun r => (r.1 = .nx ∨ r.1 = .ct) ∧ ∃ m, m < n ∧ I m r.2 else Q (.nx, b.2)) : ∀ (k n : Nat) (W : En), n < k → n ≤ N → I n W → is (whL c body k W) Q
  | 0, _, _, hk, _, _ => absurd hk (Nat.not_lt_zero _)
  | k + 1, n, W, hk, hn, i => by
    unfold whL
    rw [is_bind]
    refine is_mono (h n W hn i) fun b hb => ?_
    by_cases hc : b.1 = true
    · rw [if_pos hc] at hb ⊢
      rw [is_bind]
      refine is_mono hb ?_
      rintro ⟨fl, E⟩ ⟨hf, m, hm, im⟩
      dsimp only at hf im
      have := whL_inv I h k m E (by omega) (by omega) im
      rcases hf with rfl | rfl <;> exact this
    · rw [if_neg hc] at hb ⊢
      rw [is_some]
      exact hb
theorem wh_inv (I : Nat → En → Prop) {N : Nat} {W : En} (hN : N < 1000000000) (h0 : I N W) (h : ∀ n W, n ≤ N → I n W → is (c W) fun b => if b.1 = true then is (body b.2) fun r => (r.1 = .nx ∨ r.1 = .ct) ∧ ∃ m, m < n ∧ I m r.2 else Q (.nx, b.2)) : is (whS c body W) Q :=
  whL_inv I h fuel N W (by unfold fuel; exact hN) (Nat.le_refl _) h0
end
theorem q_popAt {xs : List D} {i : Nat} {R : D × D → Prop} (h : i < 1000000000) : is (popAtG (.list xs) [.int (i : Nat)]) R ↔ is xs[i]? fun d => R (d, .list (xs.eraseIdx i)) := by
  show is (if 0 ≤ ((i : Nat) : Int) ∧ ((i : Nat) : Int) < 1000000000 then (xs[((i : Nat) : Int).toNat]?).map fun d => (d, PyData.list (xs.eraseIdx ((i : Nat) : Int).toNat)) else none) R ↔ _
  rw [if_pos (by omega), Int.toNat_natCast, is_map]
def mkS (l : Tx) : Str := ⟨l.toArray⟩
theorem strsD_map : ∀ l : List Tx, strsD (l.map S) = some (l.map mkS)
  | [] => rfl
  | t :: l => by
    rw [List.map_cons, List.map_cons]
    show (strsD (l.map S)).map _ = _
    rw [strsD_map l]; rfl
def srtL (l : List Tx) : List Tx := (srtS (l.map mkS)).map fun s => s.cps.toList
theorem srtL_back (l : List Tx) : (srtL l).map S = (srtS (l.map mkS)).map PyData.str := by
  unfold srtL
  rw [List.map_map]
  refine List.map_congr_left fun s _ => ?_
  show PyData.str ⟨s.cps.toList.toArray⟩ = _
  cases s; rfl
theorem srtL_perm (l : List Tx) : (srtL l).Perm l := by
  have := (List.mergeSort_perm (l.map mkS) leS).map fun s : Str => s.cps.toList
  rw [List.map_map] at this
  have e : ((fun s : Str => s.cps.toList) ∘ mkS) = id := by funext t; simp [mkS]
  rw [e, List.map_id] at this
  exact this
theorem q_srt {l : List Tx} {Q : D → Prop} : is (srtG [.list (l.map S)]) Q ↔ l.length < 64 ∧ Q (.list ((srtL l).map S)) := by
  refine is_ifc ?_
  show (strsD (l.map S)).bind _ = _
  rw [strsD_map, srtL_back]
  show (if (l.map mkS).length < 64 then _ else _) = _
  rw [List.length_map]
theorem keysD_S : ∀ l : List Tx, keysD (l.map S) = some (l.map fun t => Sum.inr (mkS t))
  | [] => rfl
  | t :: l => by
    rw [List.map_cons, List.map_cons]
    show (keysD (l.map S)).map _ = _
    rw [keysD_S l]; rfl
theorem ddK_nodup : ∀ {ks σ : List Key}, (σ ++ ks).Nodup → ks.foldl PyProof.Rows.step_dedup σ = σ ++ ks
  | [], σ, _ => by simp
  | k :: ks, σ, h => by
    rw [List.foldl_cons]
    have hk : k ∉ σ := fun m => by
      rw [List.nodup_append] at h
      exact h.2.2 k m k (List.mem_cons_self ..) rfl
    have : PyProof.Rows.step_dedup σ k = σ ++ [k] := by
      unfold PyProof.Rows.step_dedup
      rw [if_neg]
      intro z
      obtain ⟨j, m, e⟩ := List.any_eq_true.mp z
      rw [show j = k from eq_of_beq e] at m
      exact hk m
    rw [this, ddK_nodup (by simpa using h)]
    simp
theorem mkS_inj {a b : Tx} (h : mkS a = mkS b) : a = b := by
  have := congrArg (fun s : Str => s.cps.toList) h
  simpa [mkS] using this
theorem q_lsD {l : List Tx} {Q : D → Prop} (h : l.Nodup) (hl : l.length < 4000) : is (lsD (.list (l.map S))) Q ↔ Q (.int (l.length : Nat)) := by
  refine is_iff ?_
  show (keysD (l.map S)).bind _ = _
  rw [keysD_S]
  show (if (l.map fun t => (Sum.inr (mkS t) : Key)).length < 4000 then _ else _) = _
  rw [if_pos (by rw [List.length_map]; exact hl)]
  have hn : (l.map fun t => (Sum.inr (mkS t) : Key)).Nodup := List.Pairwise.map _ (fun a b (hab : a ≠ b) e => hab (mkS_inj (Sum.inr.inj e))) h
  unfold ddK
  rw [ddK_nodup (σ := []) (by simpa using hn), List.nil_append, List.length_map]
theorem q_neLL {a b : List D} {Q : D → Prop} (ha : PyData.plainAll a = true) (hb : PyData.plainAll b = true) (hd : (PyData.list a).depth ≤ 60) : is (ap2 neE [.list a, .list b]) Q ↔ Q (.bool (!PyData.eqv (.list a) (.list b))) := by
  have h1 : (PyData.list a).plain = true := by rw [PyData.plain]; exact ha
  have h2 : (PyData.list b).plain = true := by rw [PyData.plain]; exact hb
  refine is_iff ?_
  show ((Option.none).or (neH (.list a) (.list b))).or (eqP not (.list a) (.list b)) = _
  rw [Option.none_or]
  unfold neH eqP
  rw [h1, h2, decide_eq_true hd]
  split <;> rfl
theorem q_eqLL {a b : List D} {Q : D → Prop} (ha : PyData.plainAll a = true) (hb : PyData.plainAll b = true) (hd : (PyData.list a).depth ≤ 60) : is (ap2 eqE [.list a, .list b]) Q ↔ Q (.bool (PyData.eqv (.list a) (.list b))) := by
  have h1 : (PyData.list a).plain = true := by rw [PyData.plain]; exact ha
  have h2 : (PyData.list b).plain = true := by rw [PyData.plain]; exact hb
  refine is_iff ?_
  show ((Option.none).or (eqH (.list a) (.list b))).or (eqP id (.list a) (.list b)) = _
  rw [Option.none_or]
  unfold eqH eqP
  rw [h1, h2, decide_eq_true hd]
  split <;> rfl
theorem q_neTT {a b : List D} {Q : D → Prop} (ha : PyData.plainAll a = true) (hb : PyData.plainAll b = true) (hd : (PyData.tuple a).depth ≤ 60) : is (ap2 neE [.tuple a, .tuple b]) Q ↔ Q (.bool (!PyData.eqv (.tuple a) (.tuple b))) := by
  have h1 : (PyData.tuple a).plain = true := by rw [PyData.plain]; exact ha
  have h2 : (PyData.tuple b).plain = true := by rw [PyData.plain]; exact hb
  refine is_iff ?_
  show ((Option.none).or (neH (.tuple a) (.tuple b))).or (eqP not (.tuple a) (.tuple b)) = _
  rw [Option.none_or]
  unfold neH eqP
  rw [h1, h2, decide_eq_true hd]
  split <;> rfl
theorem q_eqTT {a b : List D} {Q : D → Prop} (ha : PyData.plainAll a = true) (hb : PyData.plainAll b = true) (hd : (PyData.tuple a).depth ≤ 60) : is (ap2 eqE [.tuple a, .tuple b]) Q ↔ Q (.bool (PyData.eqv (.tuple a) (.tuple b))) := by
  have h1 : (PyData.tuple a).plain = true := by rw [PyData.plain]; exact ha
  have h2 : (PyData.tuple b).plain = true := by rw [PyData.plain]; exact hb
  refine is_iff ?_
  show ((Option.none).or (eqH (.tuple a) (.tuple b))).or (eqP id (.tuple a) (.tuple b)) = _
  rw [Option.none_or]
  unfold eqH eqP
  rw [h1, h2, decide_eq_true hd]
  split <;> rfl
theorem eqv_l0 {a : List D} : PyData.eqv (.list a) (.list []) = a.isEmpty := by cases a <;> rfl
theorem eqv_t0 {a : List D} : PyData.eqv (.tuple a) (.tuple []) = a.isEmpty := by cases a <;> rfl
theorem plains_1 : ∀ {l : Tx}, PyData.plainAll (l.map S1) = true
  | [] => rfl
  | c :: l => by rw [List.map_cons, PyData.plainAll, plains_1]; rfl
theorem depths_1 : ∀ {l : Tx}, PyData.depthAll (l.map S1) = 0
  | [] => rfl
  | c :: l => by rw [List.map_cons, PyData.depthAll, depths_1]; rfl
theorem inG_PT {s : Bool → Bool} {x : D} {ds : List D} : inG s x (.tuple ds) = if (SeqAt.shaped x && SeqAt.shaped (.tuple ds)) = true then some (.bool (s (ds.any fun z => PyData.eqv z x))) else none := by cases x <;> rfl
theorem inG_PL {s : Bool → Bool} {x : D} {ds : List D} : inG s x (.list ds) = if (SeqAt.shaped x && SeqAt.shaped (.list ds)) = true then some (.bool (s (ds.any fun z => PyData.eqv z x))) else none := by cases x <;> rfl
theorem q_inPtT {x : D} {ds : List D} {Q : D → Prop} (hx : x.plain = true) (hd : PyData.plainAll ds = true) (hk : x.depth ≤ 60) : is (ap2 inE [x, .tuple ds]) Q ↔ Q (.bool ((ds.any fun z => PyData.eqv z x))) := by
  have e2 : inP id x (.tuple ds) = some (.bool (id (ds.any fun z => PyData.eqv z x))) := by
    show (if (x.plain && PyData.plainAll ds && decide (x.depth ≤ 60)) = true then some (PyData.bool (id (ds.any fun z => PyData.eqv z x))) else none) = _
    rw [hx, hd, decide_eq_true hk]; rfl
  refine is_iff ?_
  show (inG id x (.tuple ds)).or (inP id x (.tuple ds)) = _
  rw [inG_PT, e2]
  split <;> rfl
theorem q_niPtT {x : D} {ds : List D} {Q : D → Prop} (hx : x.plain = true) (hd : PyData.plainAll ds = true) (hk : x.depth ≤ 60) : is (ap2 niE [x, .tuple ds]) Q ↔ Q (.bool (!(ds.any fun z => PyData.eqv z x))) := by
  have e2 : inP not x (.tuple ds) = some (.bool (not (ds.any fun z => PyData.eqv z x))) := by
    show (if (x.plain && PyData.plainAll ds && decide (x.depth ≤ 60)) = true then some (PyData.bool (not (ds.any fun z => PyData.eqv z x))) else none) = _
    rw [hx, hd, decide_eq_true hk]; rfl
  refine is_iff ?_
  show (inG not x (.tuple ds)).or (inP not x (.tuple ds)) = _
  rw [inG_PT, e2]
  split <;> rfl
theorem q_inPtL {x : D} {ds : List D} {Q : D → Prop} (hx : x.plain = true) (hd : PyData.plainAll ds = true) (hk : x.depth ≤ 60) : is (ap2 inE [x, .list ds]) Q ↔ Q (.bool ((ds.any fun z => PyData.eqv z x))) := by
  have e2 : inP id x (.list ds) = some (.bool (id (ds.any fun z => PyData.eqv z x))) := by
    show (if (x.plain && PyData.plainAll ds && decide (x.depth ≤ 60)) = true then some (PyData.bool (id (ds.any fun z => PyData.eqv z x))) else none) = _
    rw [hx, hd, decide_eq_true hk]; rfl
  refine is_iff ?_
  show (inG id x (.list ds)).or (inP id x (.list ds)) = _
  rw [inG_PL, e2]
  split <;> rfl
theorem q_niPtL {x : D} {ds : List D} {Q : D → Prop} (hx : x.plain = true) (hd : PyData.plainAll ds = true) (hk : x.depth ≤ 60) : is (ap2 niE [x, .list ds]) Q ↔ Q (.bool (!(ds.any fun z => PyData.eqv z x))) := by
  have e2 : inP not x (.list ds) = some (.bool (not (ds.any fun z => PyData.eqv z x))) := by
    show (if (x.plain && PyData.plainAll ds && decide (x.depth ≤ 60)) = true then some (PyData.bool (not (ds.any fun z => PyData.eqv z x))) else none) = _
    rw [hx, hd, decide_eq_true hk]; rfl
  refine is_iff ?_
  show (inG not x (.list ds)).or (inP not x (.list ds)) = _
  rw [inG_PL, e2]
  split <;> rfl
end Ew

/-! PlLop: for over zip(name, e), the list being one's own. -/
namespace Ew
open PySem L2
section
variable {k : Nat} {l0 : D} {g : Fg} {body : Fs} {Q : Fl × En → Prop}
theorem fm_go (I : En → Prop) (hk : ∀ W, I W → W[k]? = some (.mp l0)) : ∀ {xs : List D} {W : En}, I W → (∀ x ∈ xs, ∀ W, I W → is (g x W) fun E => is (body E) fun r => (r.1 = .nx ∨ r.1 = .ct) ∧ I r.2) → (∀ E, I E → Q (.nx, E)) → is (forML k l0 g body xs W) Q
  | [], W, i, _, q => by
    unfold forML
    rw [if_pos (hk W i), is_some]
    exact q W i
  | x :: xs, W, i, h, q => by
    unfold forML
    rw [if_pos (hk W i), is_bind]
    refine is_mono (h x (List.mem_cons_self ..) W i) fun E he => ?_
    rw [is_bind]
    refine is_mono he ?_
    rintro ⟨fl, E2⟩ ⟨hf, i2⟩
    dsimp only at hf i2
    have := fm_go I hk (W := E2) i2 (fun y m => h y (List.mem_cons_of_mem _ m)) q
    rcases hf with rfl | rfl <;> exact this
theorem w_forZM {f : Fn} {l : List D} {env : En} (h0 : env[k]? = some (.ow (.list l))) (h : is (f env) fun y => y.2[k]? = some (.ow (.list l)) ∧ noMp y.2 = true ∧ is (itemsD y.1) fun bs => is (forML k (.list l) g body (zipL l bs) (y.2.set k (.mp (.list l)))) fun z => z.2[k]? = some (.mp (.list l)) ∧ noMp (z.2.set k .un) = true ∧ Q (z.1, z.2.set k (.ow (.list l)))) : is (forZM k f g body env) Q := by
  unfold forZM
  rw [h0]
  show is ((f env).bind _) Q
  rw [is_bind]
  refine is_mono h fun y ⟨h1, h2, h3⟩ => ?_
  rw [if_pos ⟨h1, h2⟩, is_bind]
  refine is_mono h3 fun bs hb => ?_
  rw [is_bind]
  refine is_mono hb fun z ⟨z1, z2, z3⟩ => ?_
  rw [if_pos ⟨z1, z2⟩, is_some]
  exact z3
theorem isMp_sl {p : Option D} : isMp (sl p) = false := by cases p <;> rfl
end
end Ew
namespace Ew
open PySem L2
theorem w_mkL {fa : Fa} {env : En} {Q : List D × En → Prop} : is (mkL fa env) Q ↔ is (fa env) fun x => x.1.length ≤ 1000 ∧ Q ([.list x.1], x.2) := by
  unfold mkL
  rw [is_bind]
  refine is_congr fun x => ?_
  by_cases h : x.1.length ≤ 1000
  · rw [if_pos h, is_some]; exact ⟨fun z => ⟨h, z⟩, fun z => z.2⟩
  · rw [if_neg h, is_none]; exact ⟨False.elim, fun z => h z.1⟩
end Ew
namespace Ew
open PySem L2
section
variable {α : Type} {g : Fg} {t : Fb} {f : Fn} {vs : List Nat} {W : En}
theorem lcOL_filter {k : Nat} {e : α → D} (p : α → Bool) (φ : α → D) {xs : List α} {Q : List D × En → Prop} (hW : look W k = some (.list (xs.map e))) (h : ∀ x ∈ xs, is (g (e x) W) fun E => is (t E) fun b => b.1 = p x ∧ (p x = true → is (f b.2) fun r => r.1 = φ x ∧ wipeE r.2 vs = W) ∧ (p x = false → wipeE b.2 vs = W)) :
    ∀ {m : Nat}, m ≤ xs.length → Q (((xs.drop (xs.length - m)).filter p).map φ, W) → is (lcOL k xs.length g t f vs m W) Q := by
  have hk : lkL W k xs.length = some (xs.map e) := by
    unfold lkL
    rw [hW]
    show (if (xs.map e).length = xs.length then some (xs.map e) else none) = _
    rw [if_pos (List.length_map _)]
  intro m
  induction m generalizing Q with
  | zero =>
    intro _ q
    unfold lcOL
    rw [hk, is_map, is_some]
    simpa using q
  | succ m ih =>
    intro hm q
    unfold lcOL
    have hlt : xs.length - (m + 1) < xs.length := by omega
    have hd : xs.drop (xs.length - (m + 1)) = xs[xs.length - (m + 1)] :: xs.drop (xs.length - m) := by
      rw [List.drop_eq_getElem_cons hlt, show xs.length - (m + 1) + 1 = xs.length - m by omega]
    rw [hk, is_bind, is_some, is_bind, List.getElem?_map, List.getElem?_eq_getElem hlt]
    refine ⟨_, rfl, ?_⟩
    show is (Option.bind _ _) Q
    rw [is_bind]
    refine is_mono (h _ (List.getElem_mem hlt)) fun E hE => ?_
    rw [is_bind]
    refine is_mono hE fun b ⟨hb, h1, h2⟩ => ?_
    rw [hd, List.filter_cons] at q
    cases hp : p xs[xs.length - (m + 1)] with
    | true =>
      rw [hp] at hb
      rw [hp, if_pos rfl] at q
      rw [if_pos hb, is_bind]
      refine is_mono (h1 hp) fun r hr => ?_
      rw [is_bind, hr.2]
      refine ih (by omega) ?_
      rw [is_some, hr.1]
      exact q
    | false =>
      rw [hp] at hb
      rw [hp, if_neg Bool.false_ne_true] at q
      rw [if_neg (by rw [hb]; exact Bool.false_ne_true), h2 hp]
      exact ih (by omega) q
theorem lcO_filter {k : Nat} {env : En} {e : α → D} (p : α → Bool) (φ : α → D) {xs : List α} {Q : D × En → Prop} (h0 : look env k = some (.list (xs.map e))) (hl : xs.length ≤ 1000000) (ho : okV env vs = true) (hk : k ∉ vs) (hW : look (wipeE env vs) k = some (.list (xs.map e)))
    (h : ∀ x ∈ xs, is (g (e x) (wipeE env vs)) fun E => is (t E) fun b => b.1 = p x ∧ (p x = true → is (f b.2) fun r => r.1 = φ x ∧ wipeE r.2 vs = wipeE env vs) ∧ (p x = false → wipeE b.2 vs = wipeE env vs)) (q : Q (.list ((xs.filter p).map φ), restE env (wipeE env vs) vs)) : is (lcO k g t f vs env) Q := by
  unfold lcO
  rw [h0, is_bind, is_some]
  show is (if (xs.map e).length ≤ 1000000 ∧ okV env vs = true ∧ k ∉ vs then _ else none) Q
  rw [if_pos ⟨by rw [List.length_map]; exact hl, ho, hk⟩, is_bind]
  show is (lcOL k (xs.map e).length g t f vs (xs.map e).length (wipeE env vs)) _
  rw [List.length_map]
  refine lcOL_filter p φ hW h (Nat.le_refl _) ?_
  rw [is_some, Nat.sub_self, List.drop_zero]
  exact q
end
end Ew

/-! PlBig: as PlVal, with ints below 10 ** 21. -/
namespace Ew
open PySem L2
mutual
def bsc : D → Bool
  | .none => true
  | .bool _ => true
  | .int i => decide (i.natAbs < 10 ^ 21)
  | .str z => z.cps.toList.all fun c => decide (c < 128)
  | .list ds => bscs ds
  | .tuple ds => bscs ds
  | .dict kvs => kvs.isEmpty
def bscs : List D → Bool
  | [] => true
  | d :: ds => bsc d && bscs ds
end
theorem bscs_iff : ∀ {ds : List D}, bscs ds = true ↔ ∀ d ∈ ds, bsc d = true
  | [] => by simp [bscs]
  | d :: ds => by simp [bscs, bscs_iff (ds := ds)]
mutual
theorem bsc_cn : ∀ d : D, bsc d = true → cnE d = true
  | .none, _ => rfl
  | .bool _, _ => rfl
  | .int _, _ => rfl
  | .str _, _ => rfl
  | .list ds, h => by rw [cnE]; exact bscs_cn ds (by simpa [bsc] using h)
  | .tuple ds, h => by rw [cnE]; exact bscs_cn ds (by simpa [bsc] using h)
  | .dict kvs, h => by simpa [bsc, cnE] using h
theorem bscs_cn : ∀ ds : List D, bscs ds = true → cnEs ds = true
  | [], _ => rfl
  | d :: ds, h => by
    simp only [bscs, Bool.and_eq_true] at h
    simp [cnEs, bsc_cn d h.1, bscs_cn ds h.2]
end
theorem big_ok {i : Int} (h : i.natAbs < 10 ^ 21) : (PyData.int i).leavesShort 22 = true ∧ (PyData.int i).showable = true := by
  refine ⟨?_, ?_⟩
  · rw [PyData.leavesShort, decide_eq_true_eq]
    have e := PySem.int_text_length_le10 (k := 21) (by decide) h
    show (Str.ofString (toString i)).length ≤ 22
    rw [ofString_length]; exact e
  · rw [PyData.showable, decide_eq_true_eq]
    by_cases z : i.natAbs = 0
    · rw [z]; decide
    · have := (Nat.log2_lt z (k := 70)).mpr (by omega)
      omega
mutual
theorem bsc_lv : ∀ d : D, bsc d = true → d.leavesShort 22 = true ∧ d.showable = true
  | .none, _ => ⟨rfl, rfl⟩
  | .bool _, _ => ⟨rfl, rfl⟩
  | .int _, h => big_ok (by simpa [bsc] using h)
  | .str z, h => ⟨by
    rw [PyData.leavesShort, List.all_eq_true]
    intro c m
    have h' : (z.cps.toList.all fun c => decide (c < 128)) = true := by simpa only [bsc] using h
    have := of_decide_eq_true (List.all_eq_true.mp h' c m)
    exact decide_eq_true (by omega), rfl⟩
  | .list ds, h => by rw [PyData.leavesShort, PyData.showable]; exact bscs_lv ds (by simpa [bsc] using h)
  | .tuple ds, h => by rw [PyData.leavesShort, PyData.showable]; exact bscs_lv ds (by simpa [bsc] using h)
  | .dict [], _ => ⟨rfl, rfl⟩
  | .dict (_ :: _), h => by simp [bsc] at h
theorem bscs_lv : ∀ ds : List D, bscs ds = true → PyData.leavesShortAll 22 ds = true ∧ PyData.showableAll ds = true
  | [], _ => ⟨rfl, rfl⟩
  | d :: ds, h => by
    simp only [bscs, Bool.and_eq_true] at h
    have h1 := bsc_lv d h.1
    have h2 := bscs_lv ds h.2
    exact ⟨by rw [PyData.leavesShortAll, h1.1, h2.1]; rfl, by rw [PyData.showableAll, h1.2, h2.2]; rfl⟩
end
structure Vb (n k : Nat) (d : D) : Prop where
  as : bsc d = true
  dp : d.depth ≤ k
  wt : d.weight ≤ n
structure Wb (n k : Nat) (ds : List D) : Prop where
  as : bscs ds = true
  dp : PyData.depthAll ds ≤ k
  wt : PyData.weightAll ds ≤ n
section
variable {n k m j : Nat} {d : D} {ds es : List D} {l : Tx}
theorem Vb.mono (h : Vb n k d) (hn : n ≤ m) (hk : k ≤ j) : Vb m j d := ⟨h.as, Nat.le_trans h.dp hk, Nat.le_trans h.wt hn⟩
theorem Wb.mono (h : Wb n k ds) (hn : n ≤ m) (hk : k ≤ j) : Wb m j ds := ⟨h.as, Nat.le_trans h.dp hk, Nat.le_trans h.wt hn⟩
theorem Vb.good (h : Vb n k d) (hn : n ≤ 600000) (hk : k ≤ 64) : goodE d := by
  have h1 := bsc_lv d h.as
  have h2 := PyData.shown_le 22 (by decide) d h1.1
  have h3 := h.wt
  unfold goodE
  rw [bsc_cn d h.as, h1.2, Bool.and_eq_true, decide_eq_true_eq, Bool.and_eq_true, decide_eq_true_eq]
  exact ⟨⟨rfl, Nat.le_trans h.dp hk⟩, by rw [sz_eq]; omega⟩
theorem Vb.none : Vb n k .none := ⟨rfl, Nat.zero_le _, Nat.zero_le _⟩
theorem Vb.bool {b : Bool} : Vb n k (.bool b) := ⟨rfl, Nat.zero_le _, Nat.zero_le _⟩
theorem Vb.big {i : Int} (h : i.natAbs < 10 ^ 21) (hn : 70 ≤ n) : Vb n k (.int i) := by
  refine ⟨decide_eq_true h, Nat.zero_le _, ?_⟩
  rw [PyData.weight]
  split
  · omega
  · by_cases z : i.natAbs = 0
    · rw [z]; show Nat.log2 0 + 1 ≤ n; rw [show Nat.log2 0 = 0 by decide]; omega
    · have := (Nat.log2_lt z (k := 70)).mpr (by omega)
      omega
theorem Vb.int {i : Int} (h : i.natAbs < 1000000000) (hn : 30 ≤ n) : Vb n k (.int i) := by
  refine ⟨decide_eq_true (by omega), Nat.zero_le _, ?_⟩
  rw [PyData.weight]
  split
  · omega
  · by_cases z : i.natAbs = 0
    · rw [z]; show Nat.log2 0 + 1 ≤ n; rw [show Nat.log2 0 = 0 by decide]; omega
    · have := (Nat.log2_lt z (k := 30)).mpr (by omega)
      omega
theorem Vb.emp : Vb n (k + 1) (.dict []) := ⟨rfl, by simp [PyData.depth, PyData.depthKv], by simp [PyData.weight, PyData.weightKv]⟩
theorem Vb.str (h : ∀ c ∈ l, c < 128) (hl : l.length ≤ n) : Vb n k (S l) := by
  refine ⟨?_, Nat.zero_le _, ?_⟩
  · show (l.all fun c => decide (c < 128)) = true
    rw [List.all_eq_true]; exact fun c m => decide_eq_true (h c m)
  · show (⟨l.toArray⟩ : Str).cps.size ≤ n
    simpa using hl
theorem Vb.unstr (h : Vb n k (S l)) : l.length ≤ n ∧ ∀ c ∈ l, c < 128 := by
  refine ⟨?_, fun c m => ?_⟩
  · have := h.wt
    have e : (S l).weight = l.length := by show (⟨l.toArray⟩ : Str).cps.size = _; simp
    omega
  · have h' : (l.all fun c => decide (c < 128)) = true := h.as
    exact of_decide_eq_true (List.all_eq_true.mp h' c m)
theorem Wb.tup (h : Wb n k ds) : Vb n (k + 1) (.tuple ds) := ⟨by rw [bsc]; exact h.as, by rw [PyData.depth]; have := h.dp; omega, by rw [PyData.weight]; exact h.wt⟩
theorem Wb.lst (h : Wb n k ds) : Vb n (k + 1) (.list ds) := ⟨by rw [bsc]; exact h.as, by rw [PyData.depth]; have := h.dp; omega, by rw [PyData.weight]; exact h.wt⟩
theorem Vb.untup (h : Vb n k (.tuple ds)) : 1 ≤ k ∧ Wb n (k - 1) ds := by
  have h1 := h.as; have h2 := h.dp; have h3 := h.wt
  rw [bsc] at h1; rw [PyData.depth] at h2; rw [PyData.weight] at h3
  exact ⟨by omega, h1, by omega, h3⟩
theorem Vb.unlst (h : Vb n k (.list ds)) : 1 ≤ k ∧ Wb n (k - 1) ds := by
  have h1 := h.as; have h2 := h.dp; have h3 := h.wt
  rw [bsc] at h1; rw [PyData.depth] at h2; rw [PyData.weight] at h3
  exact ⟨by omega, h1, by omega, h3⟩
theorem Wb.nil : Wb n k [] := ⟨rfl, Nat.zero_le _, Nat.zero_le _⟩
theorem Wb.cons (h : Vb n k d) (t : Wb m k ds) (e : n + m + 1 ≤ j) : Wb j k (d :: ds) := by
  refine ⟨by simp [bscs, h.as, t.as], by rw [PyData.depthAll]; exact Nat.max_le.mpr ⟨h.dp, t.dp⟩, ?_⟩
  rw [PyData.weightAll]
  have := h.wt; have := t.wt
  omega
theorem Wb.uncons (h : Wb n k (d :: ds)) : Vb n k d ∧ Wb n k ds := by
  have h1 := h.as; have h2 := h.dp; have h3 := h.wt
  simp only [bscs, Bool.and_eq_true] at h1
  rw [PyData.depthAll] at h2
  rw [PyData.weightAll] at h3
  exact ⟨⟨h1.1, by omega, by omega⟩, ⟨h1.2, by omega, by omega⟩⟩
theorem Wb.mem : ∀ {ds : List D}, Wb n k ds → ∀ d ∈ ds, Vb n k d
  | [], _, d, m => absurd m List.not_mem_nil
  | d :: ds, h, e, m => by
    rcases List.mem_cons.mp m with rfl | m
    · exact h.uncons.1
    · exact Wb.mem h.uncons.2 e m
theorem Wb.of {c : Nat} : ∀ {ds : List D}, (∀ d ∈ ds, Vb n k d) → ds.length ≤ c → Wb ((n + 1) * c) k ds
  | [], _, _ => Wb.nil
  | d :: ds, h, hc => by
    cases c with
    | zero => simp at hc
    | succ c =>
      exact Wb.cons (h d (List.mem_cons_self ..)) (Wb.of (c := c) (fun e m => h e (List.mem_cons_of_mem _ m)) (by simpa using hc)) (by rw [Nat.mul_succ]; omega)
theorem Wb.app (h : Wb n k ds) (t : Wb m k es) (e : n + m ≤ j) : Wb j k (ds ++ es) := by
  refine ⟨bscs_iff.mpr fun d hm => ?_, by rw [dAll_append]; exact Nat.max_le.mpr ⟨h.dp, t.dp⟩, by rw [wAll_append]; have := h.wt; have := t.wt; omega⟩
  rcases List.mem_append.mp hm with z | z
  · exact bscs_iff.mp h.as d z
  · exact bscs_iff.mp t.as d z
theorem Wb.unapp (h : Wb n k (ds ++ es)) : Wb n k ds ∧ Wb n k es := by
  have h1 := bscs_iff.mp h.as; have h2 := h.dp; have h3 := h.wt
  rw [dAll_append] at h2
  rw [wAll_append] at h3
  exact ⟨⟨bscs_iff.mpr fun d m => h1 d (List.mem_append_left _ m), by omega, by omega⟩, ⟨bscs_iff.mpr fun d m => h1 d (List.mem_append_right _ m), by omega, by omega⟩⟩
theorem Wb.take (h : Wb n k ds) (i : Nat) : Wb n k (ds.take i) := by
  rw [← List.take_append_drop i ds] at h
  exact h.unapp.1
theorem Wb.drop (h : Wb n k ds) (i : Nat) : Wb n k (ds.drop i) := by
  rw [← List.take_append_drop i ds] at h
  exact h.unapp.2
theorem Wb.rev (h : Wb n k ds) : Wb n k ds.reverse :=
  ⟨bscs_iff.mpr fun d m => bscs_iff.mp h.as d (List.mem_reverse.mp m), by rw [dAll_rev]; exact h.dp, by rw [wAll_rev]; exact h.wt⟩
theorem Wb.len : ∀ {ds : List D}, Wb n k ds → ds.length ≤ PyData.weightAll ds
  | [], _ => Nat.zero_le _
  | d :: ds, h => by
    have := Wb.len h.uncons.2
    rw [PyData.weightAll, List.length_cons]
    omega
theorem Wb.le (h : Wb n k ds) : ds.length ≤ n := Nat.le_trans h.len h.wt
end
end Ew

namespace K20
open PySem L2 Ew
def top (i : Nat) : Stmt := PySem.Challenge.pw_elderwords_k20_any_value_as_machine.main.body.getD i (.Pass ⟨0, 0, 0, 0⟩)
abbrev s__law_draw : Stmt := top 35
abbrev s__law_pick : Stmt := top 36
abbrev s__law_string : Stmt := top 37
abbrev s__law_machine : Stmt := top 38
abbrev s__law_bent : Stmt := top 43
abbrev s__law_edges : Stmt := top 44
abbrev s__law_are_signs : Stmt := top 40
abbrev s__law_is_string : Stmt := top 39
abbrev s__law_is_move : Stmt := top 41
abbrev s__law_flaw : Stmt := top 42
abbrev s_is_tuple : Stmt := top 3
abbrev s_are_rising : Stmt := top 4
abbrev s_are_signs : Stmt := top 13
abbrev s_is_text_of : Stmt := top 14
abbrev s_are_rows : Stmt := top 30
abbrev s_is_integer : Stmt := top 1
abbrev s_is_within : Stmt := top 2
abbrev s_is_move : Stmt := top 19
abbrev s_flaw_of : Stmt := top 31
abbrev s_machine_flaw : Stmt := top 32
abbrev s_is_machine_any : Stmt := top 20
abbrev s_is_machine : Stmt := top 26
abbrev s__law_value_right : Stmt := top 45
abbrev s_want_machine : Stmt := top 21
abbrev s_is_word_of : Stmt := top 15
abbrev s_want_told : Stmt := top 24
abbrev s_told_from : Stmt := top 22
abbrev s_told_of : Stmt := top 23
abbrev s_tells : Stmt := top 27
abbrev s_course_of : Stmt := top 25
abbrev s_course : Stmt := top 28
abbrev s__law_told_right : Stmt := top 46
abbrev s__law_right : Stmt := top 47
abbrev s__law_pot : Stmt := top 34
abbrev s_law : Stmt := top 48
/-- what the head tells -/
structure Fx (K : PySem.W.Frag) (mg : Str → Option Value) where
  f__law_draw : Addr
  fd__law_draw : FuncData
  F__law_draw : FunD K "_law_draw" "_law_draw" (defArgs s__law_draw) (defBody s__law_draw) (defScope s__law_draw) [] [] f__law_draw fd__law_draw
  m__law_draw : mg "_law_draw" = some (.ref f__law_draw)
  f__law_pick : Addr
  fd__law_pick : FuncData
  F__law_pick : FunD K "_law_pick" "_law_pick" (defArgs s__law_pick) (defBody s__law_pick) (defScope s__law_pick) [] [] f__law_pick fd__law_pick
  m__law_pick : mg "_law_pick" = some (.ref f__law_pick)
  f__law_string : Addr
  fd__law_string : FuncData
  F__law_string : FunD K "_law_string" "_law_string" (defArgs s__law_string) (defBody s__law_string) (defScope s__law_string) [] [] f__law_string fd__law_string
  m__law_string : mg "_law_string" = some (.ref f__law_string)
  f__law_machine : Addr
  fd__law_machine : FuncData
  F__law_machine : FunD K "_law_machine" "_law_machine" (defArgs s__law_machine) (defBody s__law_machine) (defScope s__law_machine) [] [] f__law_machine fd__law_machine
  m__law_machine : mg "_law_machine" = some (.ref f__law_machine)
  f__law_bent : Addr
  fd__law_bent : FuncData
  F__law_bent : FunD K "_law_bent" "_law_bent" (defArgs s__law_bent) (defBody s__law_bent) (defScope s__law_bent) [] [] f__law_bent fd__law_bent
  m__law_bent : mg "_law_bent" = some (.ref f__law_bent)
  f__law_edges : Addr
  fd__law_edges : FuncData
  F__law_edges : FunD K "_law_edges" "_law_edges" (defArgs s__law_edges) (defBody s__law_edges) (defScope s__law_edges) [] [] f__law_edges fd__law_edges
  m__law_edges : mg "_law_edges" = some (.ref f__law_edges)
  f__law_are_signs : Addr
  fd__law_are_signs : FuncData
  F__law_are_signs : FunD K "_law_are_signs" "_law_are_signs" (defArgs s__law_are_signs) (defBody s__law_are_signs) (defScope s__law_are_signs) [] [] f__law_are_signs fd__law_are_signs
  m__law_are_signs : mg "_law_are_signs" = some (.ref f__law_are_signs)
  f__law_is_string : Addr
  fd__law_is_string : FuncData
  F__law_is_string : FunD K "_law_is_string" "_law_is_string" (defArgs s__law_is_string) (defBody s__law_is_string) (defScope s__law_is_string) [] [] f__law_is_string fd__law_is_string
  m__law_is_string : mg "_law_is_string" = some (.ref f__law_is_string)
  f__law_is_move : Addr
  fd__law_is_move : FuncData
  F__law_is_move : FunD K "_law_is_move" "_law_is_move" (defArgs s__law_is_move) (defBody s__law_is_move) (defScope s__law_is_move) [] [] f__law_is_move fd__law_is_move
  m__law_is_move : mg "_law_is_move" = some (.ref f__law_is_move)
  f__law_flaw : Addr
  fd__law_flaw : FuncData
  F__law_flaw : FunD K "_law_flaw" "_law_flaw" (defArgs s__law_flaw) (defBody s__law_flaw) (defScope s__law_flaw) [] [] f__law_flaw fd__law_flaw
  m__law_flaw : mg "_law_flaw" = some (.ref f__law_flaw)
  f_is_tuple : Addr
  fd_is_tuple : FuncData
  F_is_tuple : FunD K "is_tuple" "is_tuple" (defArgs s_is_tuple) (defBody s_is_tuple) (defScope s_is_tuple) [] [] f_is_tuple fd_is_tuple
  m_is_tuple : mg "is_tuple" = some (.ref f_is_tuple)
  f_are_rising : Addr
  fd_are_rising : FuncData
  F_are_rising : FunD K "are_rising" "are_rising" (defArgs s_are_rising) (defBody s_are_rising) (defScope s_are_rising) [] [] f_are_rising fd_are_rising
  m_are_rising : mg "are_rising" = some (.ref f_are_rising)
  f_are_signs : Addr
  fd_are_signs : FuncData
  F_are_signs : FunD K "are_signs" "are_signs" (defArgs s_are_signs) (defBody s_are_signs) (defScope s_are_signs) [] [] f_are_signs fd_are_signs
  m_are_signs : mg "are_signs" = some (.ref f_are_signs)
  f_is_text_of : Addr
  fd_is_text_of : FuncData
  F_is_text_of : FunD K "is_text_of" "is_text_of" (defArgs s_is_text_of) (defBody s_is_text_of) (defScope s_is_text_of) [] [] f_is_text_of fd_is_text_of
  m_is_text_of : mg "is_text_of" = some (.ref f_is_text_of)
  f_are_rows : Addr
  fd_are_rows : FuncData
  F_are_rows : FunD K "are_rows" "are_rows" (defArgs s_are_rows) (defBody s_are_rows) (defScope s_are_rows) [] [] f_are_rows fd_are_rows
  m_are_rows : mg "are_rows" = some (.ref f_are_rows)
  f_is_integer : Addr
  fd_is_integer : FuncData
  F_is_integer : FunD K "is_integer" "is_integer" (defArgs s_is_integer) (defBody s_is_integer) (defScope s_is_integer) [] [] f_is_integer fd_is_integer
  m_is_integer : mg "is_integer" = some (.ref f_is_integer)
  f_is_within : Addr
  fd_is_within : FuncData
  F_is_within : FunD K "is_within" "is_within" (defArgs s_is_within) (defBody s_is_within) (defScope s_is_within) [] [] f_is_within fd_is_within
  m_is_within : mg "is_within" = some (.ref f_is_within)
  f_is_move : Addr
  fd_is_move : FuncData
  F_is_move : FunD K "is_move" "is_move" (defArgs s_is_move) (defBody s_is_move) (defScope s_is_move) [] [] f_is_move fd_is_move
  m_is_move : mg "is_move" = some (.ref f_is_move)
  f_flaw_of : Addr
  fd_flaw_of : FuncData
  F_flaw_of : FunD K "flaw_of" "flaw_of" (defArgs s_flaw_of) (defBody s_flaw_of) (defScope s_flaw_of) [] [] f_flaw_of fd_flaw_of
  m_flaw_of : mg "flaw_of" = some (.ref f_flaw_of)
  f_machine_flaw : Addr
  fd_machine_flaw : FuncData
  F_machine_flaw : FunD K "machine_flaw" "machine_flaw" (defArgs s_machine_flaw) (defBody s_machine_flaw) (defScope s_machine_flaw) [] [] f_machine_flaw fd_machine_flaw
  m_machine_flaw : mg "machine_flaw" = some (.ref f_machine_flaw)
  f_is_machine_any : Addr
  fd_is_machine_any : FuncData
  F_is_machine_any : FunD K "is_machine_any" "is_machine_any" (defArgs s_is_machine_any) (defBody s_is_machine_any) (defScope s_is_machine_any) [] [] f_is_machine_any fd_is_machine_any
  m_is_machine_any : mg "is_machine_any" = some (.ref f_is_machine_any)
  f_is_machine : Addr
  fd_is_machine : FuncData
  F_is_machine : FunD K "is_machine" "is_machine" (defArgs s_is_machine) (defBody s_is_machine) (defScope s_is_machine) [] [] f_is_machine fd_is_machine
  m_is_machine : mg "is_machine" = some (.ref f_is_machine)
  f__law_value_right : Addr
  fd__law_value_right : FuncData
  F__law_value_right : FunD K "_law_value_right" "_law_value_right" (defArgs s__law_value_right) (defBody s__law_value_right) (defScope s__law_value_right) [] [] f__law_value_right fd__law_value_right
  m__law_value_right : mg "_law_value_right" = some (.ref f__law_value_right)
  f_want_machine : Addr
  fd_want_machine : FuncData
  F_want_machine : FunD K "want_machine" "want_machine" (defArgs s_want_machine) (defBody s_want_machine) (defScope s_want_machine) [] [] f_want_machine fd_want_machine
  m_want_machine : mg "want_machine" = some (.ref f_want_machine)
  f_is_word_of : Addr
  fd_is_word_of : FuncData
  F_is_word_of : FunD K "is_word_of" "is_word_of" (defArgs s_is_word_of) (defBody s_is_word_of) (defScope s_is_word_of) [] [] f_is_word_of fd_is_word_of
  m_is_word_of : mg "is_word_of" = some (.ref f_is_word_of)
  f_want_told : Addr
  fd_want_told : FuncData
  F_want_told : FunD K "want_told" "want_told" (defArgs s_want_told) (defBody s_want_told) (defScope s_want_told) [] [] f_want_told fd_want_told
  m_want_told : mg "want_told" = some (.ref f_want_told)
  f_told_from : Addr
  fd_told_from : FuncData
  F_told_from : FunD K "told_from" "told_from" (defArgs s_told_from) (defBody s_told_from) (defScope s_told_from) [] [] f_told_from fd_told_from
  m_told_from : mg "told_from" = some (.ref f_told_from)
  f_told_of : Addr
  fd_told_of : FuncData
  F_told_of : FunD K "told_of" "told_of" (defArgs s_told_of) (defBody s_told_of) (defScope s_told_of) [] [] f_told_of fd_told_of
  m_told_of : mg "told_of" = some (.ref f_told_of)
  f_tells : Addr
  fd_tells : FuncData
  F_tells : FunD K "tells" "tells" (defArgs s_tells) (defBody s_tells) (defScope s_tells) [] [] f_tells fd_tells
  m_tells : mg "tells" = some (.ref f_tells)
  f_course_of : Addr
  fd_course_of : FuncData
  F_course_of : FunD K "course_of" "course_of" (defArgs s_course_of) (defBody s_course_of) (defScope s_course_of) [] [] f_course_of fd_course_of
  m_course_of : mg "course_of" = some (.ref f_course_of)
  f_course : Addr
  fd_course : FuncData
  F_course : FunD K "course" "course" (defArgs s_course) (defBody s_course) (defScope s_course) [] [] f_course fd_course
  m_course : mg "course" = some (.ref f_course)
  f__law_told_right : Addr
  fd__law_told_right : FuncData
  F__law_told_right : FunD K "_law_told_right" "_law_told_right" (defArgs s__law_told_right) (defBody s__law_told_right) (defScope s__law_told_right) [] [] f__law_told_right fd__law_told_right
  m__law_told_right : mg "_law_told_right" = some (.ref f__law_told_right)
  f__law_right : Addr
  fd__law_right : FuncData
  F__law_right : FunD K "_law_right" "_law_right" (defArgs s__law_right) (defBody s__law_right) (defScope s__law_right) [] [] f__law_right fd__law_right
  m__law_right : mg "_law_right" = some (.ref f__law_right)
  f__law_pot : Addr
  fd__law_pot : FuncData
  F__law_pot : FunD K "_law_pot" "_law_pot" (defArgs s__law_pot) (defBody s__law_pot) (defScope s__law_pot) [] [] f__law_pot fd__law_pot
  m__law_pot : mg "_law_pot" = some (.ref f__law_pot)
  f_law : Addr
  fd_law : FuncData
  F_law : FunD K "law" "law" (defArgs s_law) (defBody s_law) (defScope s_law) [] [] f_law fd_law
  m_law : mg "law" = some (.ref f_law)
  n_abs : mg "abs" = none
  n_all : mg "all" = none
  n_bool : mg "bool" = none
  n_divmod : mg "divmod" = none
  n_enumerate : mg "enumerate" = none
  n_int : mg "int" = none
  n_isinstance : mg "isinstance" = none
  n_len : mg "len" = none
  n_list : mg "list" = none
  n_max : mg "max" = none
  n_min : mg "min" = none
  n_range : mg "range" = none
  n_repr : mg "repr" = none
  n_set : mg "set" = none
  n_sorted : mg "sorted" = none
  n_str : mg "str" = none
  n_tuple : mg "tuple" = none
  n_zip : mg "zip" = none
  t_LETTERS : Tok
  c_LETTERS : mg "LETTERS" = some (.str "abcdefghijklmnopqrstuvwxyz" t_LETTERS)
  t_MOST_SIGNS : Tok
  c_MOST_SIGNS : mg "MOST_SIGNS" = some (.int 6 t_MOST_SIGNS)
  t_MOST_STATES : Tok
  c_MOST_STATES : mg "MOST_STATES" = some (.int 200 t_MOST_STATES)
  t_MOST_STRING : Tok
  c_MOST_STRING : mg "MOST_STRING" = some (.int 1000 t_MOST_STRING)
  t_MOST_WORD : Tok
  c_MOST_WORD : mg "MOST_WORD" = some (.int 60 t_MOST_WORD)
section
variable {P : Program} {w : World} {K : PySem.W.Frag} {mg : Str → Option Value} {base : Heap}
/-! _law_draw : level 1 -/
abbrev N__law_draw : List Str := ["pot", "many", "digit"]
theorem sc__law_draw : FnScope N__law_draw ["pot", "many"] (defScope s__law_draw) := ⟨rfl, rfl, rfl, by decide +kernel, rfl, by decide +kernel, by decide +kernel⟩
def G__law_draw : Fs := (seqS (ifS (asB (op2 gtD (consA (op2 ixD (consV 0 (consA (cst (.int 0)) nilA))) (consA (cst (.int 0)) nilA)))) (seqS (asgS (opN dmG (consA (op2 ixD (consV 0 (consA (cst (.int 0)) nilA))) (consV 1 nilA))) (tupG 2 (consG (subG 0 (cst (.int 0))) (consG (nameG 2) nilG))))
  (retS (vf 2))) skipS)
  (seqS (asgS (op2 modI (consA (opN intG (consA (op2 addD (consA (op2 mulD (consA (op2 ixD (consV 0 (consA (cst (.int 1)) nilA))) (consA (cst (.int 40692)) nilA))) (consA (cst (.int 9413)) nilA))) nilA)) (consA (cst (.int 2147483587)) nilA))) (subG 0 (cst (.int 1))))
  (retS (op2 modI (consA (opN intG (consA (op2 divI (consA (op2 modI (consA (opN intG (consA (op2 mulD (consA (op2 ixD (consV 0 (consA (cst (.int 1)) nilA))) (consA (op2 ixD (consV 0 (consA (cst (.int 1)) nilA))) nilA))) nilA)) (consA (cst (.int 2147483549)) nilA))) (consA (cst (.int 17)) nilA))) nilA)) (consV 1 nilA))))))
theorem b__law_draw (x : Fx K mg) : Binds K x.fd__law_draw ["pot", "many"] [] := x.F__law_draw.bindsN fun _ _ _ _ _ _ us hl => match us, hl with | [_, _], _ => rfl
def M__law_draw : D → List D → Option (D × D) := semM 3 false G__law_draw
theorem ok__law_draw (x : Fx K mg) : FnG P w K mg base 1 x.f__law_draw x.fd__law_draw ["pot", "many"] (spM K false 2 M__law_draw) := by
  refine fn_m x.F__law_draw sc__law_draw (by decide) fun cdv A outer s H E a0 hr => ?_
  have nd := sc__law_draw.nd
  exact (sb_cons (ss_if (st_cmp o_gt (sa_cons (se_ix (x_ix hr.u1) (av 0 (sa_cons se_int sa_nil)) (by intro _ _; rfl)) (sa_cons se_int sa_nil)) (by first | exact nomark _ | with_unfolding_all rfl)) (sb_cons (ss_asg (se_blt c_divmod (by rfl) x.n_divmod boot_divmod (sa_cons (se_ix (x_ix hr.u1) (av 0 (sa_cons se_int sa_nil)) (by intro _ _; rfl)) (av 1 sa_nil))) (sg_tup rfl (sgs_cons (sg_sub (i := 0) (by rfl) (by first | exact Or.inl rfl | exact Or.inr (Or.inl rfl) | exact Or.inr (Or.inr rfl)) se_int) (sgs_cons (sg_name (i := 2) nd (by rfl) (by first | exact Or.inl rfl | exact Or.inr rfl)) sgs_nil))))
    (sb_one (ss_ret (nm 2)))) sb_nil)
    (sb_cons (ss_asg (se_op2 o_mod (sa_cons (se_bty c_int (by rfl) x.n_int boot_int (sa_cons (se_op2 o_add (sa_cons (se_op2 o_mul (sa_cons (se_ix (x_ix hr.u1) (av 0 (sa_cons se_int sa_nil)) (by intro _ _; rfl)) (sa_cons se_int sa_nil))) (sa_cons se_int sa_nil))) sa_nil)) (sa_cons se_int sa_nil))) (sg_sub (i := 0) (by rfl) (by first | exact Or.inl rfl | exact Or.inr (Or.inl rfl) | exact Or.inr (Or.inr rfl)) se_int))
    (sb_one (ss_ret (se_op2 o_mod (sa_cons (se_bty c_int (by rfl) x.n_int boot_int (sa_cons (se_op2 o_div (sa_cons (se_op2 o_mod (sa_cons (se_bty c_int (by rfl) x.n_int boot_int (sa_cons (se_op2 o_mul (sa_cons (se_ix (x_ix hr.u1) (av 0 (sa_cons se_int sa_nil)) (by intro _ _; rfl)) (sa_cons (se_ix (x_ix hr.u1) (av 0 (sa_cons se_int sa_nil)) (by intro _ _; rfl)) sa_nil))) sa_nil)) (sa_cons se_int sa_nil))) (sa_cons se_int sa_nil))) sa_nil)) (av 1 sa_nil)))))))
/-! _law_pick : level 2 -/
abbrev N__law_pick : List Str := ["pot", "some"]
theorem sc__law_pick : FnScope N__law_pick ["pot", "some"] (defScope s__law_pick) := ⟨rfl, rfl, rfl, by decide +kernel, rfl, by decide +kernel, by decide +kernel⟩
def G__law_pick : Fs := (retS (op2 ixD (consV 1 (consA (callM 2 0 M__law_draw (consA (opN lenG (consV 1 nilA)) nilA)) nilA))))
theorem b__law_pick (x : Fx K mg) : Binds K x.fd__law_pick ["pot", "some"] [] := x.F__law_pick.bindsN fun _ _ _ _ _ _ us hl => match us, hl with | [_, _], _ => rfl
def M__law_pick : D → List D → Option (D × D) := semM 2 false G__law_pick
theorem ok__law_pick (x : Fx K mg) : FnG P w K mg base 2 x.f__law_pick x.fd__law_pick ["pot", "some"] (spM K false 2 M__law_pick) := by
  refine fn_m x.F__law_pick sc__law_pick (by decide) fun cdv A outer s H E a0 hr => ?_
  have nd := sc__law_pick.nd
  exact (sb_one (ss_ret (se_ix (x_ix hr.u1) (av 1 (sa_cons (se_callM (ok__law_draw x) (hr.mono (by decide)) (by rfl) x.m__law_draw x.F__law_draw.kp (b__law_draw x) (i := 0) (by rfl) (by first | exact Or.inl rfl | exact Or.inr (Or.inl rfl) | exact Or.inr (Or.inr rfl)) (sf_cons (se_blt c_len (by rfl) x.n_len boot_len (av 1 sa_nil)) sf_nil)) sa_nil)) (by intro _ _; rfl))))
/-! _law_string : level 3 -/
abbrev N__law_string : List Str := ["pot", "signs", "most", "turn"]
theorem sc__law_string : FnScope N__law_string ["pot", "signs", "most"] (defScope s__law_string) := ⟨rfl, rfl, rfl, by decide +kernel, rfl, by decide +kernel, by decide +kernel⟩
def G__law_string : Fs := (retS (metF okS joinG (cst (.str "")) (consA (lcF (rg1 (consA (callM 2 0 M__law_draw (consA (op2 addD (consV 2 (consA (cst (.int 1)) nilA))) nilA)) nilA)) (nameG 3) yesT (callM 2 0 M__law_pick (consA (vf 1) nilA)) [3]) nilA)))
theorem b__law_string (x : Fx K mg) : Binds K x.fd__law_string ["pot", "signs", "most"] [] := x.F__law_string.bindsN fun _ _ _ _ _ _ us hl => match us, hl with | [_, _, _], _ => rfl
def M__law_string : D → List D → Option (D × D) := semM 4 false G__law_string
theorem ok__law_string (x : Fx K mg) : FnG P w K mg base 3 x.f__law_string x.fd__law_string ["pot", "signs", "most"] (spM K false 3 M__law_string) := by
  refine fn_m x.F__law_string sc__law_string (by decide) fun cdv A outer s H E a0 hr => ?_
  have nd := sc__law_string.nd
  exact (sb_one (ss_ret (se_met (ok := okS) PySem.F.plainAttrs_str PySem.F.slot_str_join PySem.F.type_str_join m_join ty_s se_str (sa_cons (so_lc (own := [("turn", 3)]) rfl nd (si_rg1 (by rfl) x.n_range (sa_cons (se_callM (ok__law_draw x) (hr.mono (by decide)) (by rfl) x.m__law_draw x.F__law_draw.kp (b__law_draw x) (i := 0) (by rfl) (by first | exact Or.inl rfl | exact Or.inr (Or.inl rfl) | exact Or.inr (Or.inr rfl)) (sf_cons (se_op2 o_add (av 2 (sa_cons se_int sa_nil))) sf_nil)) sa_nil)) (blkOk_by (by kernel_rfl)) (by decide) (fun _ _ _ _ _ => (sg_name (i := 3) nd (by rfl) (by first | exact Or.inl rfl | exact Or.inr rfl))) (fun _ _ _ _ _ => sts_nil) (fun _ _ _ _ _ => (se_callM (ok__law_pick x) (hr.mono (by decide)) (by rfl) x.m__law_pick x.F__law_pick.kp (b__law_pick x) (i := 0) (by rfl) (by first | exact Or.inl rfl | exact Or.inr (Or.inl rfl) | exact Or.inr (Or.inr rfl)) (sf_cons (nm 1) sf_nil)))).se sa_nil))))
/-! _law_machine : level 4 -/
abbrev N__law_machine : List Str := ["pot", "most", "signs", "many", "moves", "ends", "state", "sign"]
theorem sc__law_machine : FnScope N__law_machine ["pot", "most"] (defScope s__law_machine) := ⟨rfl, rfl, rfl, by decide +kernel, rfl, by decide +kernel, by decide +kernel⟩
def G__law_machine : Fs := (seqS (parS [2, 3] (consMf (callM 2 0 M__law_pick (consA (lstD (consA (cst (.str "ab")) (consA (cst (.str "ab")) (consA (cst (.str "a")) (consA (cst (.str "bkz")) (consA (cst (.str "aeiktu")) nilA)))))) nilA)) (consMf (op2 addD (consA (cst (.int 1)) (consA (callM 2 0 M__law_draw (consA (vf 1) nilA)) nilA))) nilM)))
  (seqS (parS [4, 5] (consMo (lstD nilA) (consMo (lstD nilA) nilM)))
  (seqS (forS (rg1 (consV 3 nilA)) (nameG 6) (seqS (exprS (mutF 2 4 appG (consA (opN tupG1 (consA (lcF (itF (vf 2)) (nameG 7) yesT (tupD (consA (callM 3 0 M__law_string (consA (vf 2) (consA (cst (.int 2)) nilA))) (consA (callM 2 0 M__law_draw (consA (vf 3) nilA)) nilA))) [7]) nilA)) nilA)))
  (exprS (mutF 2 5 appG (consA (callM 3 0 M__law_string (consA (vf 2) (consA (cst (.int 2)) nilA))) nilA)))))
  (retS (tupD (consA (cst (.str "machine")) (consA (vf 2) (consA (callM 3 0 M__law_string (consA (vf 2) (consA (cst (.int 2)) nilA))) (consA (opN tupG1 (consV 4 nilA)) (consA (opN tupG1 (consV 5 nilA)) nilA))))))))))
theorem b__law_machine (x : Fx K mg) : Binds K x.fd__law_machine ["pot", "most"] [] := x.F__law_machine.bindsN fun _ _ _ _ _ _ us hl => match us, hl with | [_, _], _ => rfl
def M__law_machine : D → List D → Option (D × D) := semM 8 false G__law_machine
theorem ok__law_machine (x : Fx K mg) : FnG P w K mg base 4 x.f__law_machine x.fd__law_machine ["pot", "most"] (spM K false 2 M__law_machine) := by
  refine fn_m x.F__law_machine sc__law_machine (by decide) fun cdv A outer s H E a0 hr => ?_
  have nd := sc__law_machine.nd
  exact (sb_cons (ss_parN (is := [2, 3]) rfl (sn_cons nd (by rfl) (by first | exact Or.inl rfl | exact Or.inr rfl) (sn_cons nd (by rfl) (by first | exact Or.inl rfl | exact Or.inr rfl) sn_nil)) (sm_fz (se_callM (ok__law_pick x) (hr.mono (by decide)) (by rfl) x.m__law_pick x.F__law_pick.kp (b__law_pick x) (i := 0) (by rfl) (by first | exact Or.inl rfl | exact Or.inr (Or.inl rfl) | exact Or.inr (Or.inr rfl)) (sf_cons (so_lst (sf_cons se_str (sf_cons se_str (sf_cons se_str (sf_cons se_str (sf_cons se_str sf_nil)))))).se sf_nil)) (sm_fz (se_op2 o_add (sa_cons se_int (sa_cons (se_callM (ok__law_draw x) (hr.mono (by decide)) (by rfl) x.m__law_draw x.F__law_draw.kp (b__law_draw x) (i := 0) (by rfl) (by first | exact Or.inl rfl | exact Or.inr (Or.inl rfl) | exact Or.inr (Or.inr rfl)) (sf_cons (nm 1) sf_nil)) sa_nil))) sm_nil)) (by decide))
    (sb_cons (ss_par2 (i := 4) (j := 5) rfl nd (by rfl) (by rfl) (by decide) (by rfl) (by rfl) (sm_ow (so_lst sf_nil) (sm_ow (so_lst sf_nil) sm_nil)) (by rfl))
    (sb_cons (ss_for PassesOwn.never rfl (si_rg1 (by rfl) x.n_range (av 3 sa_nil)) (sg_name (i := 6) nd (by rfl) (by first | exact Or.inl rfl | exact Or.inr rfl)) (sb_cons (ss_expr (se_mut PySem.F.slot_list_append PySem.F.type_list_append m_append (i := 4) (by rfl) (by first | exact Or.inl rfl | exact Or.inr (Or.inl rfl) | exact Or.inr (Or.inr rfl)) (sf_cons (se_bty (c_tuple rfl) (by rfl) x.n_tuple boot_tuple (sa_cons (so_lc (own := [("sign", 7)]) rfl nd (si_any (nm 2)) (blkOk_by (by kernel_rfl)) (by decide) (fun _ _ _ _ _ => (sg_name (i := 7) nd (by rfl) (by first | exact Or.inl rfl | exact Or.inr rfl))) (fun _ _ _ _ _ => sts_nil) (fun _ _ _ _ _ => (se_tup (sf_cons (se_callM (ok__law_string x) (hr.mono (by decide)) (by rfl) x.m__law_string x.F__law_string.kp (b__law_string x) (i := 0) (by rfl) (by first | exact Or.inl rfl | exact Or.inr (Or.inl rfl) | exact Or.inr (Or.inr rfl)) (sf_cons (nm 2) (sf_cons se_int sf_nil))) (sf_cons (se_callM (ok__law_draw x) (hr.mono (by decide)) (by rfl) x.m__law_draw x.F__law_draw.kp (b__law_draw x) (i := 0) (by rfl) (by first | exact Or.inl rfl | exact Or.inr (Or.inl rfl) | exact Or.inr (Or.inr rfl)) (sf_cons (nm 3) sf_nil)) sf_nil))))).se sa_nil)) sf_nil)))
    (sb_one (ss_expr (se_mut PySem.F.slot_list_append PySem.F.type_list_append m_append (i := 5) (by rfl) (by first | exact Or.inl rfl | exact Or.inr (Or.inl rfl) | exact Or.inr (Or.inr rfl)) (sf_cons (se_callM (ok__law_string x) (hr.mono (by decide)) (by rfl) x.m__law_string x.F__law_string.kp (b__law_string x) (i := 0) (by rfl) (by first | exact Or.inl rfl | exact Or.inr (Or.inl rfl) | exact Or.inr (Or.inr rfl)) (sf_cons (nm 2) (sf_cons se_int sf_nil))) sf_nil))))))
    (sb_one (ss_ret (se_tup (sf_cons se_str (sf_cons (nm 2) (sf_cons (se_callM (ok__law_string x) (hr.mono (by decide)) (by rfl) x.m__law_string x.F__law_string.kp (b__law_string x) (i := 0) (by rfl) (by first | exact Or.inl rfl | exact Or.inr (Or.inl rfl) | exact Or.inr (Or.inr rfl)) (sf_cons (nm 2) (sf_cons se_int sf_nil))) (sf_cons (se_bty (c_tuple rfl) (by rfl) x.n_tuple boot_tuple (av 4 sa_nil)) (sf_cons (se_bty (c_tuple rfl) (by rfl) x.n_tuple boot_tuple (av 5 sa_nil)) sf_nil)))))))))))
/-! _law_bent : level 11 -/
abbrev N__law_bent : List Str := ["pot", "value", "at", "way"]
theorem sc__law_bent : FnScope N__law_bent ["pot", "value"] (defScope s__law_bent) := ⟨rfl, rfl, rfl, by decide +kernel, rfl, by decide +kernel, by decide +kernel⟩
def G__law_bent (R : D → List D → Option (D × D)) : Fs := (seqS (ifS (andT (asB (isiF .tup (vf 1))) (andT (asB (op2 gtD (consA (opN lenG (consV 1 nilA)) (consA (cst (.int 0)) nilA)))) (asB (op2 gtD (consA (callM 2 0 M__law_draw (consA (cst (.int 9)) nilA)) (consA (cst (.int 0)) nilA)))))) (seqS (parS [2, 3] (consMf (callM 2 0 M__law_draw (consA (opN lenG (consV 1 nilA)) nilA)) (consMf (callM 2 0 M__law_draw (consA (cst (.int 12)) nilA)) nilM)))
  (seqS (ifS (asB (op2 eqE (consV 3 (consA (cst (.int 0)) nilA)))) (retS (op2 addD (consA (slF slD (vf 1) noP (atP (vf 2))) (consA (slF slD (vf 1) (atP (op2 addD (consV 2 (consA (cst (.int 1)) nilA)))) noP) nilA)))) skipS)
  (seqS (ifS (asB (op2 eqE (consV 3 (consA (cst (.int 1)) nilA)))) (retS (op2 addD (consA (slF slD (vf 1) noP (atP (op2 addD (consV 2 (consA (cst (.int 1)) nilA))))) (consA (slF slD (vf 1) (atP (vf 2)) noP) nilA)))) skipS)
  (seqS (ifS (asB (op2 eqE (consV 3 (consA (cst (.int 2)) nilA)))) (retS (opN lisG (consV 1 nilA))) skipS)
  (seqS (ifS (asB (op2 eqE (consV 3 (consA (cst (.int 3)) nilA)))) (retS (un1 rvD (vf 1))) skipS)
  (retS (op2 addD (consA (op2 addD (consA (slF slD (vf 1) noP (atP (vf 2))) (consA (tupD (consA (callM 2 0 R (consA (op2 ixD (consV 1 (consV 2 nilA))) nilA)) nilA)) nilA))) (consA (slF slD (vf 1) (atP (op2 addD (consV 2 (consA (cst (.int 1)) nilA)))) noP) nilA))))))))) skipS)
  (seqS (ifS (andT (asB (isiF .int (vf 1))) (notT (asB (isiF .bl (vf 1))))) (retS (callM 2 0 M__law_pick (consA (lstD (consA (op2 addD (consV 1 (consA (cst (.int 1)) nilA))) (consA (op2 subI (consV 1 (consA (cst (.int 1)) nilA))) (consA (un1 negD (cst (.int 1))) (consA (cst (.bool true)) (consA (cst .none) (consA (cst (.str "0")) (consA (op2 powI (consA (cst (.int 10)) (consA (cst (.int 20)) nilA))) (consA (tupD (consA (vf 1) nilA)) (consA (cst (.int 0)) nilA)))))))))) nilA))) skipS)
  (seqS (ifS (asB (isiF .str (vf 1))) (retS (callM 2 0 M__law_pick (consA (lstD (consA (op2 addD (consV 1 (consA (cst (.str "a")) nilA))) (consA (slF slD (vf 1) (atP (cst (.int 1))) noP) (consA (cst (.str "")) (consA (cst (.str "ba")) (consA (cst (.str "aa")) (consA (cst (.str "A")) (consA (cst (.str "a b")) (consA (cst (.str "#")) (consA (cst (.str "machine")) (consA (cst (.str "abcdefg")) (consA (cst .none) (consA (cst (.int 0)) (consA (lstD (consA (cst (.str "a")) nilA)) nilA)))))))))))))) nilA))) skipS)
  (retS (callM 2 0 M__law_pick (consA (lstD (consA (cst .none) (consA (cst (.int 0)) (consA (tupD nilA) (consA (lstD nilA) (consA (cst (.str "a")) (consA (tupD (consA (cst (.str "a")) (consA (cst (.int 0)) nilA))) (consA emD nilA)))))))) nilA))))))
theorem b__law_bent (x : Fx K mg) : Binds K x.fd__law_bent ["pot", "value"] [] := x.F__law_bent.bindsN fun _ _ _ _ _ _ us hl => match us, hl with | [_, _], _ => rfl
def M__law_bent_at : Nat → D → List D → Option (D × D)
  | 0 => fun _ _ => none
  | r + 1 => semM 4 false (G__law_bent (M__law_bent_at r))
def M__law_bent : D → List D → Option (D × D) := M__law_bent_at 9
theorem step__law_bent (x : Fx K mg) (r : Nat) (R : D → List D → Option (D × D)) (ih : FnG P w K mg base (2 + r) x.f__law_bent x.fd__law_bent ["pot", "value"] (spM K false 2 R)) : FnG P w K mg base (2 + r + 1) x.f__law_bent x.fd__law_bent ["pot", "value"] (spM K false 2 (semM 4 false (G__law_bent R))) := by
  refine fn_m x.F__law_bent sc__law_bent (by decide) fun cdv A outer s H E a0 hr => ?_
  have nd := sc__law_bent.nd
  exact (sb_cons (ss_if (sw_and (st_val (se_isi .tup (by rfl) x.n_isinstance (by rfl) x.n_tuple boot_tuple (nm 1))) (sw_and (st_cmp o_gt (sa_cons (se_blt c_len (by rfl) x.n_len boot_len (av 1 sa_nil)) (sa_cons se_int sa_nil)) (by first | exact nomark _ | with_unfolding_all rfl)) (sw_and1 (st_cmp o_gt (sa_cons (se_callM (ok__law_draw x) (hr.mono (by first | decide | omega)) (by rfl) x.m__law_draw x.F__law_draw.kp (b__law_draw x) (i := 0) (by rfl) (by first | exact Or.inl rfl | exact Or.inr (Or.inl rfl) | exact Or.inr (Or.inr rfl)) (sf_cons se_int sf_nil)) (sa_cons se_int sa_nil)) (by first | exact nomark _ | with_unfolding_all rfl))))).st (sb_cons (ss_par2 (i := 2) (j := 3) rfl nd (by rfl) (by rfl) (by decide) (by rfl) (by rfl) (sm_fz (se_callM (ok__law_draw x) (hr.mono (by first | decide | omega)) (by rfl) x.m__law_draw x.F__law_draw.kp (b__law_draw x) (i := 0) (by rfl) (by first | exact Or.inl rfl | exact Or.inr (Or.inl rfl) | exact Or.inr (Or.inr rfl)) (sf_cons (se_blt c_len (by rfl) x.n_len boot_len (av 1 sa_nil)) sf_nil)) (sm_fz (se_callM (ok__law_draw x) (hr.mono (by first | decide | omega)) (by rfl) x.m__law_draw x.F__law_draw.kp (b__law_draw x) (i := 0) (by rfl) (by first | exact Or.inl rfl | exact Or.inr (Or.inl rfl) | exact Or.inr (Or.inr rfl)) (sf_cons se_int sf_nil)) sm_nil)) (by rfl))
    (sb_cons (ss_if (st_cmp (o_eqE hr.u65) (av 3 (sa_cons se_int sa_nil)) (by first | exact nomark _ | with_unfolding_all rfl)) (sb_one (ss_ret (se_op2 o_add (sa_cons (se_sl (nm 1) sp_none (sp_some (nm 2))) (sa_cons (se_sl (nm 1) (sp_some (se_op2 o_add (av 2 (sa_cons se_int sa_nil)))) sp_none) sa_nil))))) sb_nil)
    (sb_cons (ss_if (st_cmp (o_eqE hr.u65) (av 3 (sa_cons se_int sa_nil)) (by first | exact nomark _ | with_unfolding_all rfl)) (sb_one (ss_ret (se_op2 o_add (sa_cons (se_sl (nm 1) sp_none (sp_some (se_op2 o_add (av 2 (sa_cons se_int sa_nil))))) (sa_cons (se_sl (nm 1) (sp_some (nm 2)) sp_none) sa_nil))))) sb_nil)
    (sb_cons (ss_if (st_cmp (o_eqE hr.u65) (av 3 (sa_cons se_int sa_nil)) (by first | exact nomark _ | with_unfolding_all rfl)) (sb_one (ss_ret (so_bty (c_list rfl) (by rfl) x.n_list boot_list (av 1 sa_nil)).se)) sb_nil)
    (sb_cons (ss_if (st_cmp (o_eqE hr.u65) (av 3 (sa_cons se_int sa_nil)) (by first | exact nomark _ | with_unfolding_all rfl)) (sb_one (ss_ret (se_rv (nm 1)))) sb_nil)
    (sb_one (ss_ret (se_op2 o_add (sa_cons (se_op2 o_add (sa_cons (se_sl (nm 1) sp_none (sp_some (nm 2))) (sa_cons (se_tup (sf_cons (se_callM ih (hr.mono (by first | decide | omega)) (by rfl) x.m__law_bent x.F__law_bent.kp (b__law_bent x) (i := 0) (by rfl) (by first | exact Or.inl rfl | exact Or.inr (Or.inl rfl) | exact Or.inr (Or.inr rfl)) (sf_cons (se_ix (x_ix hr.u1) (av 1 (av 2 sa_nil)) (by intro _ _; rfl)) sf_nil)) sf_nil)) sa_nil))) (sa_cons (se_sl (nm 1) (sp_some (se_op2 o_add (av 2 (sa_cons se_int sa_nil)))) sp_none) sa_nil)))))))))) sb_nil)
    (sb_cons (ss_if (sw_and (st_val (se_isi .int (by rfl) x.n_isinstance (by rfl) x.n_int boot_int (nm 1))) (sw_and1 (st_not (st_val (se_isi .bl (by rfl) x.n_isinstance (by rfl) x.n_bool boot_bool (nm 1)))))).st (sb_one (ss_ret (se_callM (ok__law_pick x) (hr.mono (by first | decide | omega)) (by rfl) x.m__law_pick x.F__law_pick.kp (b__law_pick x) (i := 0) (by rfl) (by first | exact Or.inl rfl | exact Or.inr (Or.inl rfl) | exact Or.inr (Or.inr rfl)) (sf_cons (so_lst (sf_cons (se_op2 o_add (av 1 (sa_cons se_int sa_nil))) (sf_cons (se_op2 o_sub (av 1 (sa_cons se_int sa_nil))) (sf_cons (se_neg se_int) (sf_cons se_bl (sf_cons se_non (sf_cons se_str (sf_cons (se_op2 o_pow (sa_cons se_int (sa_cons se_int sa_nil))) (sf_cons (se_tup (sf_cons (nm 1) sf_nil)) (sf_cons se_int sf_nil)))))))))).se sf_nil)))) sb_nil)
    (sb_cons (ss_if (st_val (se_isi .str (by rfl) x.n_isinstance (by rfl) x.n_str boot_str (nm 1))) (sb_one (ss_ret (se_callM (ok__law_pick x) (hr.mono (by first | decide | omega)) (by rfl) x.m__law_pick x.F__law_pick.kp (b__law_pick x) (i := 0) (by rfl) (by first | exact Or.inl rfl | exact Or.inr (Or.inl rfl) | exact Or.inr (Or.inr rfl)) (sf_cons (so_lst (sf_cons (se_op2 o_add (av 1 (sa_cons se_str sa_nil))) (sf_cons (se_sl (nm 1) (sp_some se_int) sp_none) (sf_cons se_str (sf_cons se_str (sf_cons se_str (sf_cons se_str (sf_cons se_str (sf_cons se_str (sf_cons se_str (sf_cons se_str (sf_cons se_non (sf_cons se_int (sf_cons (so_lst (sf_cons se_str sf_nil)).se sf_nil)))))))))))))).se sf_nil)))) sb_nil)
    (sb_one (ss_ret (se_callM (ok__law_pick x) (hr.mono (by first | decide | omega)) (by rfl) x.m__law_pick x.F__law_pick.kp (b__law_pick x) (i := 0) (by rfl) (by first | exact Or.inl rfl | exact Or.inr (Or.inl rfl) | exact Or.inr (Or.inr rfl)) (sf_cons (so_lst (sf_cons se_non (sf_cons se_int (sf_cons (se_tup sf_nil) (sf_cons (so_lst sf_nil).se (sf_cons se_str (sf_cons (se_tup (sf_cons se_str (sf_cons se_int sf_nil))) (sf_cons so_emp.se sf_nil)))))))).se sf_nil)))))))
theorem okat__law_bent (x : Fx K mg) : ∀ r, FnG P w K mg base (2 + r) x.f__law_bent x.fd__law_bent ["pot", "value"] (spM K false 2 (M__law_bent_at r))
  | 0 => none_m _
  | r + 1 => step__law_bent x r _ (okat__law_bent x r)
theorem ok__law_bent (x : Fx K mg) : FnG P w K mg base 11 x.f__law_bent x.fd__law_bent ["pot", "value"] (spM K false 2 M__law_bent) := okat__law_bent x 9
/-! _law_edges : level 2 -/
abbrev N__law_edges : List Str := ["pot", "far", "found", "many", "long", "signs", "sign"]
theorem sc__law_edges : FnScope N__law_edges ["pot"] (defScope s__law_edges) := ⟨rfl, rfl, rfl, by decide +kernel, rfl, by decide +kernel, by decide +kernel⟩
def G__law_edges : Fs := (seqS (parS [1, 2] (consMf (callM 2 0 M__law_draw (consA (cst (.int 200)) nilA)) (consMo (lstD nilA) nilM)))
  (seqS (forS (itF (tupD (consA (cst (.int 1000)) (consA (cst (.int 1001)) nilA)))) (nameG 3) (seqS (setS 4 (op2 mulD (consA (cst (.str "a")) (consV 3 nilA))))
  (seqS (exprS (mutF 2 2 appG (consA (tupD (consA (cst (.str "machine")) (consA (cst (.str "a")) (consA (vf 4) (consA (tupD (consA (tupD (consA (tupD (consA (cst (.str "")) (consA (cst (.int 0)) nilA))) nilA)) nilA)) (consA (tupD (consA (cst (.str "")) nilA)) nilA)))))) nilA)))
  (seqS (exprS (mutF 2 2 appG (consA (tupD (consA (cst (.str "machine")) (consA (cst (.str "a")) (consA (cst (.str "")) (consA (tupD (consA (tupD (consA (tupD (consA (vf 4) (consA (cst (.int 0)) nilA))) nilA)) nilA)) (consA (tupD (consA (cst (.str "")) nilA)) nilA)))))) nilA)))
  (exprS (mutF 2 2 appG (consA (tupD (consA (cst (.str "machine")) (consA (cst (.str "a")) (consA (cst (.str "")) (consA (tupD (consA (tupD (consA (tupD (consA (cst (.str "")) (consA (cst (.int 0)) nilA))) nilA)) nilA)) (consA (tupD (consA (vf 4) nilA)) nilA)))))) nilA)))))))
  (seqS (forS (itF (tupD (consA (cst (.int 200)) (consA (cst (.int 201)) nilA)))) (nameG 3) (exprS (mutF 2 2 appG (consA (tupD (consA (cst (.str "machine")) (consA (cst (.str "a")) (consA (cst (.str "")) (consA (op2 mulD (consA (tupD (consA (tupD (consA (tupD (consA (cst (.str "a")) (consA (vf 1) nilA))) nilA)) nilA)) (consV 3 nilA))) (consA (op2 mulD (consA (tupD (consA (cst (.str "")) nilA)) (consV 3 nilA))) nilA)))))) nilA))))
  (seqS (forS (itF (tupD (consA (cst (.str "abcdef")) (consA (cst (.str "abcdefg")) nilA)))) (nameG 5) (exprS (mutF 2 2 appG (consA (tupD (consA (cst (.str "machine")) (consA (vf 5) (consA (cst (.str "")) (consA (tupD (consA (opN tupG1 (consA (lcF (itF (vf 5)) (nameG 6) yesT (tupD (consA (vf 6) (consA (cst (.int 0)) nilA))) [6]) nilA)) nilA)) (consA (tupD (consA (cst (.str "")) nilA)) nilA)))))) nilA))))
  (seqS (exprS (mutF 2 2 extG (consA (lstD (consA (tupD (consA (cst (.str "machine")) (consA (cst (.str "a")) (consA (cst (.str "")) (consA (op2 mulD (consA (tupD (consA (tupD (consA (tupD (consA (cst (.str "")) (consA (cst (.int 200)) nilA))) nilA)) nilA)) (consA (cst (.int 200)) nilA))) (consA (op2 mulD (consA (tupD (consA (cst (.str "")) nilA)) (consA (cst (.int 200)) nilA))) nilA)))))) (consA (tupD (consA (cst (.str "machine")) (consA (cst (.str "a")) (consA (cst (.str "")) (consA (tupD nilA) (consA (tupD nilA) nilA)))))) (consA (tupD (consA (cst (.str "machine")) (consA (cst (.str "")) (consA (cst (.str "")) (consA (tupD (consA (tupD nilA) nilA)) (consA (tupD (consA (cst (.str "")) nilA)) nilA)))))) nilA)))) nilA)))
  (retS (vf 2)))))))
theorem b__law_edges (x : Fx K mg) : Binds K x.fd__law_edges ["pot"] [] := x.F__law_edges.bindsN fun _ _ _ _ _ _ us hl => match us, hl with | [_], _ => rfl
def M__law_edges : D → List D → Option (D × D) := semM 7 false G__law_edges
theorem ok__law_edges (x : Fx K mg) : FnG P w K mg base 2 x.f__law_edges x.fd__law_edges ["pot"] (spM K false 1 M__law_edges) := by
  refine fn_m x.F__law_edges sc__law_edges (by decide) fun cdv A outer s H E a0 hr => ?_
  have nd := sc__law_edges.nd
  exact (sb_cons (ss_par2 (i := 1) (j := 2) rfl nd (by rfl) (by rfl) (by decide) (by rfl) (by rfl) (sm_fz (se_callM (ok__law_draw x) (hr.mono (by decide)) (by rfl) x.m__law_draw x.F__law_draw.kp (b__law_draw x) (i := 0) (by rfl) (by first | exact Or.inl rfl | exact Or.inr (Or.inl rfl) | exact Or.inr (Or.inr rfl)) (sf_cons se_int sf_nil)) (sm_ow (so_lst sf_nil) sm_nil)) (by rfl))
    (sb_cons (ss_for PassesOwn.never rfl (si_any (se_tup (sf_cons se_int (sf_cons se_int sf_nil)))) (sg_name (i := 3) nd (by rfl) (by first | exact Or.inl rfl | exact Or.inr rfl)) (sb_cons (ss_set (i := 4) nd (by rfl) (by first | exact Or.inl rfl | exact Or.inr rfl) (se_op2 o_mul (sa_cons se_str (av 3 sa_nil))))
    (sb_cons (ss_expr (se_mut PySem.F.slot_list_append PySem.F.type_list_append m_append (i := 2) (by rfl) (by first | exact Or.inl rfl | exact Or.inr (Or.inl rfl) | exact Or.inr (Or.inr rfl)) (sf_cons (se_tup (sf_cons se_str (sf_cons se_str (sf_cons (nm 4) (sf_cons (se_tup (sf_cons (se_tup (sf_cons (se_tup (sf_cons se_str (sf_cons se_int sf_nil))) sf_nil)) sf_nil)) (sf_cons (se_tup (sf_cons se_str sf_nil)) sf_nil)))))) sf_nil)))
    (sb_cons (ss_expr (se_mut PySem.F.slot_list_append PySem.F.type_list_append m_append (i := 2) (by rfl) (by first | exact Or.inl rfl | exact Or.inr (Or.inl rfl) | exact Or.inr (Or.inr rfl)) (sf_cons (se_tup (sf_cons se_str (sf_cons se_str (sf_cons se_str (sf_cons (se_tup (sf_cons (se_tup (sf_cons (se_tup (sf_cons (nm 4) (sf_cons se_int sf_nil))) sf_nil)) sf_nil)) (sf_cons (se_tup (sf_cons se_str sf_nil)) sf_nil)))))) sf_nil)))
    (sb_one (ss_expr (se_mut PySem.F.slot_list_append PySem.F.type_list_append m_append (i := 2) (by rfl) (by first | exact Or.inl rfl | exact Or.inr (Or.inl rfl) | exact Or.inr (Or.inr rfl)) (sf_cons (se_tup (sf_cons se_str (sf_cons se_str (sf_cons se_str (sf_cons (se_tup (sf_cons (se_tup (sf_cons (se_tup (sf_cons se_str (sf_cons se_int sf_nil))) sf_nil)) sf_nil)) (sf_cons (se_tup (sf_cons (nm 4) sf_nil)) sf_nil)))))) sf_nil))))))))
    (sb_cons (ss_for PassesOwn.never rfl (si_any (se_tup (sf_cons se_int (sf_cons se_int sf_nil)))) (sg_name (i := 3) nd (by rfl) (by first | exact Or.inl rfl | exact Or.inr rfl)) (sb_one (ss_expr (se_mut PySem.F.slot_list_append PySem.F.type_list_append m_append (i := 2) (by rfl) (by first | exact Or.inl rfl | exact Or.inr (Or.inl rfl) | exact Or.inr (Or.inr rfl)) (sf_cons (se_tup (sf_cons se_str (sf_cons se_str (sf_cons se_str (sf_cons (se_op2 o_mul (sa_cons (se_tup (sf_cons (se_tup (sf_cons (se_tup (sf_cons se_str (sf_cons (nm 1) sf_nil))) sf_nil)) sf_nil)) (av 3 sa_nil))) (sf_cons (se_op2 o_mul (sa_cons (se_tup (sf_cons se_str sf_nil)) (av 3 sa_nil))) sf_nil)))))) sf_nil)))))
    (sb_cons (ss_for PassesOwn.never rfl (si_any (se_tup (sf_cons se_str (sf_cons se_str sf_nil)))) (sg_name (i := 5) nd (by rfl) (by first | exact Or.inl rfl | exact Or.inr rfl)) (sb_one (ss_expr (se_mut PySem.F.slot_list_append PySem.F.type_list_append m_append (i := 2) (by rfl) (by first | exact Or.inl rfl | exact Or.inr (Or.inl rfl) | exact Or.inr (Or.inr rfl)) (sf_cons (se_tup (sf_cons se_str (sf_cons (nm 5) (sf_cons se_str (sf_cons (se_tup (sf_cons (se_bty (c_tuple rfl) (by rfl) x.n_tuple boot_tuple (sa_cons (so_lc (own := [("sign", 6)]) rfl nd (si_any (nm 5)) (blkOk_by (by kernel_rfl)) (by decide) (fun _ _ _ _ _ => (sg_name (i := 6) nd (by rfl) (by first | exact Or.inl rfl | exact Or.inr rfl))) (fun _ _ _ _ _ => sts_nil) (fun _ _ _ _ _ => (se_tup (sf_cons (nm 6) (sf_cons se_int sf_nil))))).se sa_nil)) sf_nil)) (sf_cons (se_tup (sf_cons se_str sf_nil)) sf_nil)))))) sf_nil)))))
    (sb_cons (ss_expr (se_mut PySem.F.slot_list_extend PySem.F.type_list_extend m_extend (i := 2) (by rfl) (by first | exact Or.inl rfl | exact Or.inr (Or.inl rfl) | exact Or.inr (Or.inr rfl)) (sf_cons (so_lst (sf_cons (se_tup (sf_cons se_str (sf_cons se_str (sf_cons se_str (sf_cons (se_op2 o_mul (sa_cons (se_tup (sf_cons (se_tup (sf_cons (se_tup (sf_cons se_str (sf_cons se_int sf_nil))) sf_nil)) sf_nil)) (sa_cons se_int sa_nil))) (sf_cons (se_op2 o_mul (sa_cons (se_tup (sf_cons se_str sf_nil)) (sa_cons se_int sa_nil))) sf_nil)))))) (sf_cons (se_tup (sf_cons se_str (sf_cons se_str (sf_cons se_str (sf_cons (se_tup sf_nil) (sf_cons (se_tup sf_nil) sf_nil)))))) (sf_cons (se_tup (sf_cons se_str (sf_cons se_str (sf_cons se_str (sf_cons (se_tup (sf_cons (se_tup sf_nil) sf_nil)) (sf_cons (se_tup (sf_cons se_str sf_nil)) sf_nil)))))) sf_nil)))).se sf_nil)))
    (sb_one (ss_ret (nm 2))))))))
/-! _law_are_signs : level 1 -/
abbrev N__law_are_signs : List Str := ["value", "sign"]
theorem sc__law_are_signs : FnScope N__law_are_signs ["value"] (defScope s__law_are_signs) := ⟨rfl, rfl, rfl, by decide +kernel, rfl, by decide +kernel, by decide +kernel⟩
def G__law_are_signs : Fs := (seqS (ifS (orT (notT (asB (isiF .str (vf 0)))) (orT (asB (op2 eqE (consV 0 (consA (cst (.str "")) nilA)))) (orT (asB (op2 gtD (consA (opN lenG (consV 0 nilA)) (consA (cst (.int 6)) nilA)))) (notT (asB (opN allG (consA (lcF (itF (vf 0)) (nameG 1) yesT (ofB (chF leD leD (cst (.str "a")) (vf 1) (cst (.str "z")))) [1]) nilA))))))) (retS (cst (.bool false))) skipS)
  (retS (op2 eqE (consA (opN lisG (consV 0 nilA)) (consA (sstF (vf 0)) nilA)))))
theorem b__law_are_signs (x : Fx K mg) : Binds K x.fd__law_are_signs ["value"] [] := x.F__law_are_signs.bindsN fun _ _ _ _ _ _ us hl => match us, hl with | [_], _ => rfl
def F__law_are_signs : List D → Option D := semP 2 false G__law_are_signs
theorem ok__law_are_signs (x : Fx K mg) : FnG P w K mg base 1 x.f__law_are_signs x.fd__law_are_signs ["value"] (spP K false 1 F__law_are_signs) := by
  refine fn_p x.F__law_are_signs sc__law_are_signs fun cdv A outer s H E hr => ?_
  have nd := sc__law_are_signs.nd
  exact (sb_cons (ss_if (sw_or (st_not (st_val (se_isi .str (by rfl) x.n_isinstance (by rfl) x.n_str boot_str (nm 0)))) (sw_or (st_cmp (o_eqE hr.u65) (av 0 (sa_cons se_str sa_nil)) (by first | exact nomark _ | with_unfolding_all rfl)) (sw_or (st_cmp o_gt (sa_cons (se_blt c_len (by rfl) x.n_len boot_len (av 0 sa_nil)) (sa_cons se_int sa_nil)) (by first | exact nomark _ | with_unfolding_all rfl)) (sw_or1 (st_not (st_val (se_blt (c_all rfl) (by rfl) x.n_all boot_all (sa_cons (so_lc (own := [("sign", 1)]) rfl nd (si_any (nm 0)) (blkOk_by (by kernel_rfl)) (by decide) (fun _ _ _ _ _ => (sg_name (i := 1) nd (by rfl) (by first | exact Or.inl rfl | exact Or.inr rfl))) (fun _ _ _ _ _ => sts_nil) (fun _ _ _ _ _ => (se_chain o_le o_le se_str (nm 1) se_str))).se sa_nil)))))))).st (sb_one (ss_ret se_bl)) sb_nil)
    (sb_one (ss_ret (se_cmp (o_eqE hr.u65) (sa_cons (so_bty (c_list rfl) (by rfl) x.n_list boot_list (av 0 sa_nil)).se (sa_cons (so_sst rfl (by rfl) x.n_sorted (by rfl) x.n_set (nm 0)).se sa_nil)) (by first | exact nomark _ | with_unfolding_all rfl)))))
/-! _law_is_string : level 1 -/
abbrev N__law_is_string : List Str := ["signs", "value", "sign"]
theorem sc__law_is_string : FnScope N__law_is_string ["signs", "value"] (defScope s__law_is_string) := ⟨rfl, rfl, rfl, by decide +kernel, rfl, by decide +kernel, by decide +kernel⟩
def G__law_is_string : Fs := (retS (andV (isiF .str (vf 1)) (andV (op2 ltD (consA (opN lenG (consV 1 nilA)) (consA (cst (.int 1001)) nilA))) (op2 eqE (consA (lcF (itF (vf 1)) (nameG 2) (asB (op2 niE (consV 2 (consV 0 nilA)))) (vf 2) [2]) (consA (lstD nilA) nilA))))))
theorem b__law_is_string (x : Fx K mg) : Binds K x.fd__law_is_string ["signs", "value"] [] := x.F__law_is_string.bindsN fun _ _ _ _ _ _ us hl => match us, hl with | [_, _], _ => rfl
def F__law_is_string : List D → Option D := semP 3 false G__law_is_string
theorem ok__law_is_string (x : Fx K mg) : FnG P w K mg base 1 x.f__law_is_string x.fd__law_is_string ["signs", "value"] (spP K false 2 F__law_is_string) := by
  refine fn_p x.F__law_is_string sc__law_is_string fun cdv A outer s H E hr => ?_
  have nd := sc__law_is_string.nd
  exact (sb_one (ss_ret (se_and (se_isi .str (by rfl) x.n_isinstance (by rfl) x.n_str boot_str (nm 1)) (se_and (se_cmp o_lt (sa_cons (se_blt c_len (by rfl) x.n_len boot_len (av 1 sa_nil)) (sa_cons se_int sa_nil)) (by first | exact nomark _ | with_unfolding_all rfl)) (se_one (se_cmp (o_eqE hr.u65) (sa_cons (so_lc (own := [("sign", 2)]) rfl nd (si_any (nm 1)) (blkOk_by (by kernel_rfl)) (by decide) (fun _ _ _ _ _ => (sg_name (i := 2) nd (by rfl) (by first | exact Or.inl rfl | exact Or.inr rfl))) (fun _ _ _ _ _ => (sts_one (st_cmp (o_niE hr.u65) (av 2 (av 0 sa_nil)) (by first | exact nomark _ | with_unfolding_all rfl)))) (fun _ _ _ _ _ => (nm 2))).se (sa_cons (so_lst sf_nil).se sa_nil)) (by first | exact nomark _ | with_unfolding_all rfl)))))))
/-! _law_is_move : level 2 -/
abbrev N__law_is_move : List Str := ["signs", "many", "value"]
theorem sc__law_is_move : FnScope N__law_is_move ["signs", "many", "value"] (defScope s__law_is_move) := ⟨rfl, rfl, rfl, by decide +kernel, rfl, by decide +kernel, by decide +kernel⟩
def G__law_is_move : Fs := (seqS (ifS (orT (notT (asB (isiF .tup (vf 2)))) (orT (asB (op2 neE (consA (opN lenG (consV 2 nilA)) (consA (cst (.int 2)) nilA)))) (notT (asB (callP 2 F__law_is_string (consA (vf 0) (consA (op2 ixD (consV 2 (consA (cst (.int 0)) nilA))) nilA))))))) (retS (cst (.bool false))) skipS)
  (retS (andV (isiF .int (op2 ixD (consV 2 (consA (cst (.int 1)) nilA)))) (andV (notV (isiF .bl (op2 ixD (consV 2 (consA (cst (.int 1)) nilA))))) (ofB (chF leD ltD (cst (.int 0)) (op2 ixD (consV 2 (consA (cst (.int 1)) nilA))) (vf 1)))))))
theorem b__law_is_move (x : Fx K mg) : Binds K x.fd__law_is_move ["signs", "many", "value"] [] := x.F__law_is_move.bindsN fun _ _ _ _ _ _ us hl => match us, hl with | [_, _, _], _ => rfl
def F__law_is_move : List D → Option D := semP 3 false G__law_is_move
theorem ok__law_is_move (x : Fx K mg) : FnG P w K mg base 2 x.f__law_is_move x.fd__law_is_move ["signs", "many", "value"] (spP K false 3 F__law_is_move) := by
  refine fn_p x.F__law_is_move sc__law_is_move fun cdv A outer s H E hr => ?_
  have nd := sc__law_is_move.nd
  exact (sb_cons (ss_if (sw_or (st_not (st_val (se_isi .tup (by rfl) x.n_isinstance (by rfl) x.n_tuple boot_tuple (nm 2)))) (sw_or (st_cmp (o_neE hr.u65) (sa_cons (se_blt c_len (by rfl) x.n_len boot_len (av 2 sa_nil)) (sa_cons se_int sa_nil)) (by first | exact nomark _ | with_unfolding_all rfl)) (sw_or1 (st_not (st_val (se_call (ok__law_is_string x) (hr.mono (by decide)) (by rfl) x.m__law_is_string x.F__law_is_string.kp (b__law_is_string x) (sf_cons (nm 0) (sf_cons (se_ix (x_ix hr.u1) (av 2 (sa_cons se_int sa_nil)) (by intro _ _; rfl)) sf_nil)))))))).st (sb_one (ss_ret se_bl)) sb_nil)
    (sb_one (ss_ret (se_and (se_isi .int (by rfl) x.n_isinstance (by rfl) x.n_int boot_int (se_ix (x_ix hr.u1) (av 2 (sa_cons se_int sa_nil)) (by intro _ _; rfl))) (se_and (se_not (se_isi .bl (by rfl) x.n_isinstance (by rfl) x.n_bool boot_bool (se_ix (x_ix hr.u1) (av 2 (sa_cons se_int sa_nil)) (by intro _ _; rfl)))) (se_one (se_chain o_le o_lt se_int (se_ix (x_ix hr.u1) (av 2 (sa_cons se_int sa_nil)) (by intro _ _; rfl)) (nm 1))))))))
/-! _law_flaw : level 3 -/
abbrev N__law_flaw : List Str := ["value", "head", "signs", "first", "moves", "ends", "row", "state", "place", "one"]
theorem sc__law_flaw : FnScope N__law_flaw ["value"] (defScope s__law_flaw) := ⟨rfl, rfl, rfl, by decide +kernel, rfl, by decide +kernel, by decide +kernel⟩
def G__law_flaw : Fs := (seqS (ifS (orT (notT (asB (isiF .tup (vf 0)))) (orT (asB (op2 neE (consA (opN lenG (consV 0 nilA)) (consA (cst (.int 5)) nilA)))) (asB (op2 neE (consA (opN repG (consA (op2 ixD (consV 0 (consA (cst (.int 0)) nilA))) nilA)) (consA (opN repG (consA (cst (.str "machine")) nilA)) nilA)))))) (retS (tupD (consA (cst (.str "form")) nilA))) skipS)
  (seqS (asgS (vf 0) (tupG 5 (consG (nameG 1) (consG (nameG 2) (consG (nameG 3) (consG (nameG 4) (consG (nameG 5) nilG)))))))
  (seqS (ifS (notT (asB (callP 1 F__law_are_signs (consA (vf 2) nilA)))) (retS (tupD (consA (cst (.str "signs")) nilA))) skipS)
  (seqS (ifS (notT (asB (callP 2 F__law_is_string (consA (vf 2) (consA (vf 3) nilA))))) (retS (tupD (consA (cst (.str "first")) nilA))) skipS)
  (seqS (ifS (orT (notT (asB (isiF .tup (vf 4)))) (notT (chF ltD ltD (cst (.int 0)) (opN lenG (consV 4 nilA)) (cst (.int 201))))) (retS (tupD (consA (cst (.str "moves")) nilA))) skipS)
  (seqS (forS (itF (vf 4)) (nameG 6) (ifS (orT (notT (asB (isiF .tup (vf 6)))) (asB (op2 neE (consA (opN lenG (consV 6 nilA)) (consA (opN lenG (consV 2 nilA)) nilA))))) (retS (tupD (consA (cst (.str "moves")) nilA))) skipS))
  (seqS (forS (enF (consA (vf 4) nilA)) (tupG 2 (consG (nameG 7) (consG (nameG 6) nilG))) (forS (enF (consA (vf 6) nilA)) (tupG 2 (consG (nameG 8) (consG (nameG 9) nilG))) (ifS (notT (asB (callP 3 F__law_is_move (consA (vf 2) (consA (opN lenG (consV 4 nilA)) (consA (vf 9) nilA)))))) (retS (tupD (consA (cst (.str "move")) (consA (vf 7) (consA (vf 8) nilA))))) skipS)))
  (seqS (ifS (orT (notT (asB (isiF .tup (vf 5)))) (orT (asB (op2 neE (consA (opN lenG (consV 5 nilA)) (consA (opN lenG (consV 4 nilA)) nilA)))) (notT (asB (opN allG (consA (lcF (itF (vf 5)) (nameG 9) yesT (callP 2 F__law_is_string (consA (vf 2) (consA (vf 9) nilA))) [9]) nilA)))))) (retS (tupD (consA (cst (.str "ends")) nilA))) skipS)
  (retS (cst .none))))))))))
theorem b__law_flaw (x : Fx K mg) : Binds K x.fd__law_flaw ["value"] [] := x.F__law_flaw.bindsN fun _ _ _ _ _ _ us hl => match us, hl with | [_], _ => rfl
def F__law_flaw : List D → Option D := semP 10 false G__law_flaw
theorem ok__law_flaw (x : Fx K mg) : FnG P w K mg base 3 x.f__law_flaw x.fd__law_flaw ["value"] (spP K false 1 F__law_flaw) := by
  refine fn_p x.F__law_flaw sc__law_flaw fun cdv A outer s H E hr => ?_
  have nd := sc__law_flaw.nd
  exact (sb_cons (ss_if (sw_or (st_not (st_val (se_isi .tup (by rfl) x.n_isinstance (by rfl) x.n_tuple boot_tuple (nm 0)))) (sw_or (st_cmp (o_neE hr.u65) (sa_cons (se_blt c_len (by rfl) x.n_len boot_len (av 0 sa_nil)) (sa_cons se_int sa_nil)) (by first | exact nomark _ | with_unfolding_all rfl)) (sw_or1 (st_cmp (o_neE hr.u65) (sa_cons (se_blt (c_rep hr.g hr.u100) (by rfl) x.n_repr boot_repr (sa_cons (se_ix (x_ix hr.u1) (av 0 (sa_cons se_int sa_nil)) (by intro _ _; rfl)) sa_nil)) (sa_cons (se_blt (c_rep hr.g hr.u100) (by rfl) x.n_repr boot_repr (sa_cons se_str sa_nil)) sa_nil)) (by first | exact nomark _ | with_unfolding_all rfl))))).st (sb_one (ss_ret (se_tup (sf_cons se_str sf_nil)))) sb_nil)
    (sb_cons (ss_asg (nm 0) (sg_tup rfl (sgs_cons (sg_name (i := 1) nd (by rfl) (by first | exact Or.inl rfl | exact Or.inr rfl)) (sgs_cons (sg_name (i := 2) nd (by rfl) (by first | exact Or.inl rfl | exact Or.inr rfl)) (sgs_cons (sg_name (i := 3) nd (by rfl) (by first | exact Or.inl rfl | exact Or.inr rfl)) (sgs_cons (sg_name (i := 4) nd (by rfl) (by first | exact Or.inl rfl | exact Or.inr rfl)) (sgs_cons (sg_name (i := 5) nd (by rfl) (by first | exact Or.inl rfl | exact Or.inr rfl)) sgs_nil)))))))
    (sb_cons (ss_if (st_not (st_val (se_call (ok__law_are_signs x) (hr.mono (by decide)) (by rfl) x.m__law_are_signs x.F__law_are_signs.kp (b__law_are_signs x) (sf_cons (nm 2) sf_nil)))) (sb_one (ss_ret (se_tup (sf_cons se_str sf_nil)))) sb_nil)
    (sb_cons (ss_if (st_not (st_val (se_call (ok__law_is_string x) (hr.mono (by decide)) (by rfl) x.m__law_is_string x.F__law_is_string.kp (b__law_is_string x) (sf_cons (nm 2) (sf_cons (nm 3) sf_nil))))) (sb_one (ss_ret (se_tup (sf_cons se_str sf_nil)))) sb_nil)
    (sb_cons (ss_if (sw_or (st_not (st_val (se_isi .tup (by rfl) x.n_isinstance (by rfl) x.n_tuple boot_tuple (nm 4)))) (sw_or1 (st_not (st_chain o_lt o_lt se_int (se_blt c_len (by rfl) x.n_len boot_len (av 4 sa_nil)) se_int)))).st (sb_one (ss_ret (se_tup (sf_cons se_str sf_nil)))) sb_nil)
    (sb_cons (ss_for PassesOwn.never rfl (si_any (nm 4)) (sg_name (i := 6) nd (by rfl) (by first | exact Or.inl rfl | exact Or.inr rfl)) (sb_one (ss_if (sw_or (st_not (st_val (se_isi .tup (by rfl) x.n_isinstance (by rfl) x.n_tuple boot_tuple (nm 6)))) (sw_or1 (st_cmp (o_neE hr.u65) (sa_cons (se_blt c_len (by rfl) x.n_len boot_len (av 6 sa_nil)) (sa_cons (se_blt c_len (by rfl) x.n_len boot_len (av 2 sa_nil)) sa_nil)) (by first | exact nomark _ | with_unfolding_all rfl)))).st (sb_one (ss_ret (se_tup (sf_cons se_str sf_nil)))) sb_nil)))
    (sb_cons (ss_for PassesOwn.never rfl (si_en (by rfl) x.n_enumerate (sf_cons (nm 4) sf_nil)) (sg_tup rfl (sgs_cons (sg_name (i := 7) nd (by rfl) (by first | exact Or.inl rfl | exact Or.inr rfl)) (sgs_cons (sg_name (i := 6) nd (by rfl) (by first | exact Or.inl rfl | exact Or.inr rfl)) sgs_nil))) (sb_one (ss_for PassesOwn.never rfl (si_en (by rfl) x.n_enumerate (sf_cons (nm 6) sf_nil)) (sg_tup rfl (sgs_cons (sg_name (i := 8) nd (by rfl) (by first | exact Or.inl rfl | exact Or.inr rfl)) (sgs_cons (sg_name (i := 9) nd (by rfl) (by first | exact Or.inl rfl | exact Or.inr rfl)) sgs_nil))) (sb_one (ss_if (st_not (st_val (se_call (ok__law_is_move x) (hr.mono (by decide)) (by rfl) x.m__law_is_move x.F__law_is_move.kp (b__law_is_move x) (sf_cons (nm 2) (sf_cons (se_blt c_len (by rfl) x.n_len boot_len (av 4 sa_nil)) (sf_cons (nm 9) sf_nil)))))) (sb_one (ss_ret (se_tup (sf_cons se_str (sf_cons (nm 7) (sf_cons (nm 8) sf_nil)))))) sb_nil)))))
    (sb_cons (ss_if (sw_or (st_not (st_val (se_isi .tup (by rfl) x.n_isinstance (by rfl) x.n_tuple boot_tuple (nm 5)))) (sw_or (st_cmp (o_neE hr.u65) (sa_cons (se_blt c_len (by rfl) x.n_len boot_len (av 5 sa_nil)) (sa_cons (se_blt c_len (by rfl) x.n_len boot_len (av 4 sa_nil)) sa_nil)) (by first | exact nomark _ | with_unfolding_all rfl)) (sw_or1 (st_not (st_val (se_blt (c_all rfl) (by rfl) x.n_all boot_all (sa_cons (so_lc (own := [("one", 9)]) rfl nd (si_any (nm 5)) (blkOk_by (by kernel_rfl)) (by decide) (fun _ _ _ _ _ => (sg_name (i := 9) nd (by rfl) (by first | exact Or.inl rfl | exact Or.inr rfl))) (fun _ _ _ _ _ => sts_nil) (fun _ _ _ _ _ => (se_call (ok__law_is_string x) (hr.mono (by decide)) (by rfl) x.m__law_is_string x.F__law_is_string.kp (b__law_is_string x) (sf_cons (nm 2) (sf_cons (nm 9) sf_nil))))).se sa_nil))))))).st (sb_one (ss_ret (se_tup (sf_cons se_str sf_nil)))) sb_nil)
    (sb_one (ss_ret se_non))))))))))
/-! is_tuple : level 1 -/
abbrev N_is_tuple : List Str := ["value", "many"]
theorem sc_is_tuple : FnScope N_is_tuple ["value", "many"] (defScope s_is_tuple) := ⟨rfl, rfl, rfl, by decide +kernel, rfl, by decide +kernel, by decide +kernel⟩
def G_is_tuple : Fs := (retS (andV (isiF .tup (vf 0)) (op2 eqE (consA (opN lenG (consV 0 nilA)) (consV 1 nilA)))))
theorem b_is_tuple (x : Fx K mg) : Binds K x.fd_is_tuple ["value", "many"] [] := x.F_is_tuple.bindsN fun _ _ _ _ _ _ us hl => match us, hl with | [_, _], _ => rfl
def F_is_tuple : List D → Option D := semP 2 false G_is_tuple
theorem ok_is_tuple (x : Fx K mg) : FnG P w K mg base 1 x.f_is_tuple x.fd_is_tuple ["value", "many"] (spP K false 2 F_is_tuple) := by
  refine fn_p x.F_is_tuple sc_is_tuple fun cdv A outer s H E hr => ?_
  have nd := sc_is_tuple.nd
  exact (sb_one (ss_ret (se_and (se_isi .tup (by rfl) x.n_isinstance (by rfl) x.n_tuple boot_tuple (nm 0)) (se_one (se_cmp (o_eqE hr.u65) (sa_cons (se_blt c_len (by rfl) x.n_len boot_len (av 0 sa_nil)) (av 1 sa_nil)) (by first | exact nomark _ | with_unfolding_all rfl))))))
/-! are_rising : level 1 -/
abbrev N_are_rising : List Str := ["values", "near", "far"]
theorem sc_are_rising : FnScope N_are_rising ["values"] (defScope s_are_rising) := ⟨rfl, rfl, rfl, by decide +kernel, rfl, by decide +kernel, by decide +kernel⟩
def G_are_rising : Fs := (retS (opN allG (consA (lcF (zpF (consA (vf 0) (consA (slF slD (vf 0) (atP (cst (.int 1))) noP) nilA))) (tupG 2 (consG (nameG 1) (consG (nameG 2) nilG))) yesT (op2 ltD (consV 1 (consV 2 nilA))) [1, 2]) nilA)))
theorem b_are_rising (x : Fx K mg) : Binds K x.fd_are_rising ["values"] [] := x.F_are_rising.bindsN fun _ _ _ _ _ _ us hl => match us, hl with | [_], _ => rfl
def F_are_rising : List D → Option D := semP 3 false G_are_rising
theorem ok_are_rising (x : Fx K mg) : FnG P w K mg base 1 x.f_are_rising x.fd_are_rising ["values"] (spP K false 1 F_are_rising) := by
  refine fn_p x.F_are_rising sc_are_rising fun cdv A outer s H E hr => ?_
  have nd := sc_are_rising.nd
  exact (sb_one (ss_ret (se_blt (c_all rfl) (by rfl) x.n_all boot_all (sa_cons (so_lc (own := [("near", 1), ("far", 2)]) rfl nd (si_zp (by rfl) x.n_zip (sf_cons (nm 0) (sf_cons (se_sl (nm 0) (sp_some se_int) sp_none) sf_nil))) (blkOk_by (by kernel_rfl)) (by decide) (fun _ _ _ _ _ => (sg_tup rfl (sgs_cons (sg_name (i := 1) nd (by rfl) (by first | exact Or.inl rfl | exact Or.inr rfl)) (sgs_cons (sg_name (i := 2) nd (by rfl) (by first | exact Or.inl rfl | exact Or.inr rfl)) sgs_nil)))) (fun _ _ _ _ _ => sts_nil) (fun _ _ _ _ _ => (se_cmp o_lt (av 1 (av 2 sa_nil)) (by first | exact nomark _ | with_unfolding_all rfl)))).se sa_nil))))
/-! are_signs : level 2 -/
abbrev N_are_signs : List Str := ["value", "sign"]
theorem sc_are_signs : FnScope N_are_signs ["value"] (defScope s_are_signs) := ⟨rfl, rfl, rfl, by decide +kernel, rfl, by decide +kernel, by decide +kernel⟩
def G_are_signs : Fs := (seqS (ifS (orT (notT (asB (isiF .str (vf 0)))) (notT (chF leD leD (cst (.int 1)) (opN lenG (consV 0 nilA)) (cst (.int 6))))) (retS (cst (.bool false))) skipS)
  (retS (andV (opN allG (consA (lcF (itF (vf 0)) (nameG 1) yesT (op2 inE (consV 1 (consA (cst (.str "abcdefghijklmnopqrstuvwxyz")) nilA))) [1]) nilA)) (callP 1 F_are_rising (consA (vf 0) nilA)))))
theorem b_are_signs (x : Fx K mg) : Binds K x.fd_are_signs ["value"] [] := x.F_are_signs.bindsN fun _ _ _ _ _ _ us hl => match us, hl with | [_], _ => rfl
def F_are_signs : List D → Option D := semP 2 false G_are_signs
theorem ok_are_signs (x : Fx K mg) : FnG P w K mg base 2 x.f_are_signs x.fd_are_signs ["value"] (spP K false 1 F_are_signs) := by
  refine fn_p x.F_are_signs sc_are_signs fun cdv A outer s H E hr => ?_
  have nd := sc_are_signs.nd
  exact (sb_cons (ss_if (sw_or (st_not (st_val (se_isi .str (by rfl) x.n_isinstance (by rfl) x.n_str boot_str (nm 0)))) (sw_or1 (st_not (st_chain o_le o_le se_int (se_blt c_len (by rfl) x.n_len boot_len (av 0 sa_nil)) (gi x.c_MOST_SIGNS))))).st (sb_one (ss_ret se_bl)) sb_nil)
    (sb_one (ss_ret (se_and (se_blt (c_all rfl) (by rfl) x.n_all boot_all (sa_cons (so_lc (own := [("sign", 1)]) rfl nd (si_any (nm 0)) (blkOk_by (by kernel_rfl)) (by decide) (fun _ _ _ _ _ => (sg_name (i := 1) nd (by rfl) (by first | exact Or.inl rfl | exact Or.inr rfl))) (fun _ _ _ _ _ => sts_nil) (fun _ _ _ _ _ => (se_cmp (o_inE hr.u65) (av 1 (sa_cons (gs x.c_LETTERS) sa_nil)) (by first | exact nomark _ | with_unfolding_all rfl)))).se sa_nil)) (se_one (se_call (ok_are_rising x) (hr.mono (by decide)) (by rfl) x.m_are_rising x.F_are_rising.kp (b_are_rising x) (sf_cons (nm 0) sf_nil)))))))
/-! is_text_of : level 1 -/
abbrev N_is_text_of : List Str := ["signs", "value", "most", "sign"]
theorem sc_is_text_of : FnScope N_is_text_of ["signs", "value", "most"] (defScope s_is_text_of) := ⟨rfl, rfl, rfl, by decide +kernel, rfl, by decide +kernel, by decide +kernel⟩
def G_is_text_of : Fs := (retS (andV (isiF .str (vf 1)) (andV (op2 leD (consA (opN lenG (consV 1 nilA)) (consV 2 nilA))) (opN allG (consA (lcF (itF (vf 1)) (nameG 3) yesT (op2 inE (consV 3 (consV 0 nilA))) [3]) nilA)))))
theorem b_is_text_of (x : Fx K mg) : Binds K x.fd_is_text_of ["signs", "value", "most"] [] := x.F_is_text_of.bindsN fun _ _ _ _ _ _ us hl => match us, hl with | [_, _, _], _ => rfl
def F_is_text_of : List D → Option D := semP 4 false G_is_text_of
theorem ok_is_text_of (x : Fx K mg) : FnG P w K mg base 1 x.f_is_text_of x.fd_is_text_of ["signs", "value", "most"] (spP K false 3 F_is_text_of) := by
  refine fn_p x.F_is_text_of sc_is_text_of fun cdv A outer s H E hr => ?_
  have nd := sc_is_text_of.nd
  exact (sb_one (ss_ret (se_and (se_isi .str (by rfl) x.n_isinstance (by rfl) x.n_str boot_str (nm 1)) (se_and (se_cmp o_le (sa_cons (se_blt c_len (by rfl) x.n_len boot_len (av 1 sa_nil)) (av 2 sa_nil)) (by first | exact nomark _ | with_unfolding_all rfl)) (se_one (se_blt (c_all rfl) (by rfl) x.n_all boot_all (sa_cons (so_lc (own := [("sign", 3)]) rfl nd (si_any (nm 1)) (blkOk_by (by kernel_rfl)) (by decide) (fun _ _ _ _ _ => (sg_name (i := 3) nd (by rfl) (by first | exact Or.inl rfl | exact Or.inr rfl))) (fun _ _ _ _ _ => sts_nil) (fun _ _ _ _ _ => (se_cmp (o_inE hr.u65) (av 3 (av 0 sa_nil)) (by first | exact nomark _ | with_unfolding_all rfl)))).se sa_nil)))))))
/-! are_rows : level 2 -/
abbrev N_are_rows : List Str := ["signs", "value", "row"]
theorem sc_are_rows : FnScope N_are_rows ["signs", "value"] (defScope s_are_rows) := ⟨rfl, rfl, rfl, by decide +kernel, rfl, by decide +kernel, by decide +kernel⟩
def G_are_rows : Fs := (seqS (ifS (orT (notT (asB (isiF .tup (vf 1)))) (notT (chF leD leD (cst (.int 1)) (opN lenG (consV 1 nilA)) (cst (.int 200))))) (retS (cst (.bool false))) skipS)
  (retS (opN allG (consA (lcF (itF (vf 1)) (nameG 2) yesT (callP 2 F_is_tuple (consA (vf 2) (consA (opN lenG (consV 0 nilA)) nilA))) [2]) nilA))))
theorem b_are_rows (x : Fx K mg) : Binds K x.fd_are_rows ["signs", "value"] [] := x.F_are_rows.bindsN fun _ _ _ _ _ _ us hl => match us, hl with | [_, _], _ => rfl
def F_are_rows : List D → Option D := semP 3 false G_are_rows
theorem ok_are_rows (x : Fx K mg) : FnG P w K mg base 2 x.f_are_rows x.fd_are_rows ["signs", "value"] (spP K false 2 F_are_rows) := by
  refine fn_p x.F_are_rows sc_are_rows fun cdv A outer s H E hr => ?_
  have nd := sc_are_rows.nd
  exact (sb_cons (ss_if (sw_or (st_not (st_val (se_isi .tup (by rfl) x.n_isinstance (by rfl) x.n_tuple boot_tuple (nm 1)))) (sw_or1 (st_not (st_chain o_le o_le se_int (se_blt c_len (by rfl) x.n_len boot_len (av 1 sa_nil)) (gi x.c_MOST_STATES))))).st (sb_one (ss_ret se_bl)) sb_nil)
    (sb_one (ss_ret (se_blt (c_all rfl) (by rfl) x.n_all boot_all (sa_cons (so_lc (own := [("row", 2)]) rfl nd (si_any (nm 1)) (blkOk_by (by kernel_rfl)) (by decide) (fun _ _ _ _ _ => (sg_name (i := 2) nd (by rfl) (by first | exact Or.inl rfl | exact Or.inr rfl))) (fun _ _ _ _ _ => sts_nil) (fun _ _ _ _ _ => (se_call (ok_is_tuple x) (hr.mono (by decide)) (by rfl) x.m_is_tuple x.F_is_tuple.kp (b_is_tuple x) (sf_cons (nm 2) (sf_cons (se_blt c_len (by rfl) x.n_len boot_len (av 0 sa_nil)) sf_nil))))).se sa_nil)))))
/-! is_integer : level 1 -/
abbrev N_is_integer : List Str := ["value"]
theorem sc_is_integer : FnScope N_is_integer ["value"] (defScope s_is_integer) := ⟨rfl, rfl, rfl, by decide +kernel, rfl, by decide +kernel, by decide +kernel⟩
def G_is_integer : Fs := (retS (andV (isiF .int (vf 0)) (notV (isiF .bl (vf 0)))))
theorem b_is_integer (x : Fx K mg) : Binds K x.fd_is_integer ["value"] [] := x.F_is_integer.bindsN fun _ _ _ _ _ _ us hl => match us, hl with | [_], _ => rfl
def F_is_integer : List D → Option D := semP 1 false G_is_integer
theorem ok_is_integer (x : Fx K mg) : FnG P w K mg base 1 x.f_is_integer x.fd_is_integer ["value"] (spP K false 1 F_is_integer) := by
  refine fn_p x.F_is_integer sc_is_integer fun cdv A outer s H E hr => ?_
  have nd := sc_is_integer.nd
  exact (sb_one (ss_ret (se_and (se_isi .int (by rfl) x.n_isinstance (by rfl) x.n_int boot_int (nm 0)) (se_one (se_not (se_isi .bl (by rfl) x.n_isinstance (by rfl) x.n_bool boot_bool (nm 0)))))))
/-! is_within : level 2 -/
abbrev N_is_within : List Str := ["value", "least", "most"]
theorem sc_is_within : FnScope N_is_within ["value", "least", "most"] (defScope s_is_within) := ⟨rfl, rfl, rfl, by decide +kernel, rfl, by decide +kernel, by decide +kernel⟩
def G_is_within : Fs := (retS (andV (callP 1 F_is_integer (consA (vf 0) nilA)) (ofB (chF leD leD (vf 1) (vf 0) (vf 2)))))
theorem b_is_within (x : Fx K mg) : Binds K x.fd_is_within ["value", "least", "most"] [] := x.F_is_within.bindsN fun _ _ _ _ _ _ us hl => match us, hl with | [_, _, _], _ => rfl
def F_is_within : List D → Option D := semP 3 false G_is_within
theorem ok_is_within (x : Fx K mg) : FnG P w K mg base 2 x.f_is_within x.fd_is_within ["value", "least", "most"] (spP K false 3 F_is_within) := by
  refine fn_p x.F_is_within sc_is_within fun cdv A outer s H E hr => ?_
  have nd := sc_is_within.nd
  exact (sb_one (ss_ret (se_and (se_call (ok_is_integer x) (hr.mono (by decide)) (by rfl) x.m_is_integer x.F_is_integer.kp (b_is_integer x) (sf_cons (nm 0) sf_nil)) (se_one (se_chain o_le o_le (nm 1) (nm 0) (nm 2))))))
/-! is_move : level 3 -/
abbrev N_is_move : List Str := ["signs", "many", "value"]
theorem sc_is_move : FnScope N_is_move ["signs", "many", "value"] (defScope s_is_move) := ⟨rfl, rfl, rfl, by decide +kernel, rfl, by decide +kernel, by decide +kernel⟩
def G_is_move : Fs := (retS (andV (callP 2 F_is_tuple (consA (vf 2) (consA (cst (.int 2)) nilA))) (andV (callP 3 F_is_text_of (consA (vf 0) (consA (op2 ixD (consV 2 (consA (cst (.int 0)) nilA))) (consA (cst (.int 1000)) nilA)))) (callP 3 F_is_within (consA (op2 ixD (consV 2 (consA (cst (.int 1)) nilA))) (consA (cst (.int 0)) (consA (op2 subI (consV 1 (consA (cst (.int 1)) nilA))) nilA)))))))
theorem b_is_move (x : Fx K mg) : Binds K x.fd_is_move ["signs", "many", "value"] [] := x.F_is_move.bindsN fun _ _ _ _ _ _ us hl => match us, hl with | [_, _, _], _ => rfl
def F_is_move : List D → Option D := semP 3 false G_is_move
theorem ok_is_move (x : Fx K mg) : FnG P w K mg base 3 x.f_is_move x.fd_is_move ["signs", "many", "value"] (spP K false 3 F_is_move) := by
  refine fn_p x.F_is_move sc_is_move fun cdv A outer s H E hr => ?_
  have nd := sc_is_move.nd
  exact (sb_one (ss_ret (se_and (se_call (ok_is_tuple x) (hr.mono (by decide)) (by rfl) x.m_is_tuple x.F_is_tuple.kp (b_is_tuple x) (sf_cons (nm 2) (sf_cons se_int sf_nil))) (se_and (se_call (ok_is_text_of x) (hr.mono (by decide)) (by rfl) x.m_is_text_of x.F_is_text_of.kp (b_is_text_of x) (sf_cons (nm 0) (sf_cons (se_ix (x_ix hr.u1) (av 2 (sa_cons se_int sa_nil)) (by intro _ _; rfl)) (sf_cons (gi x.c_MOST_STRING) sf_nil)))) (se_one (se_call (ok_is_within x) (hr.mono (by decide)) (by rfl) x.m_is_within x.F_is_within.kp (b_is_within x) (sf_cons (se_ix (x_ix hr.u1) (av 2 (sa_cons se_int sa_nil)) (by intro _ _; rfl)) (sf_cons se_int (sf_cons (se_op2 o_sub (av 1 (sa_cons se_int sa_nil))) sf_nil)))))))))
/-! flaw_of : level 4 -/
abbrev N_flaw_of : List Str := ["value", "state", "row", "place", "one"]
theorem sc_flaw_of : FnScope N_flaw_of ["value"] (defScope s_flaw_of) := ⟨rfl, rfl, rfl, by decide +kernel, rfl, by decide +kernel, by decide +kernel⟩
def G_flaw_of : Fs := (seqS (ifS (orT (notT (asB (callP 2 F_is_tuple (consA (vf 0) (consA (cst (.int 5)) nilA))))) (orT (notT (asB (isiF .str (op2 ixD (consV 0 (consA (cst (.int 0)) nilA)))))) (asB (op2 neE (consA (op2 ixD (consV 0 (consA (cst (.int 0)) nilA))) (consA (cst (.str "machine")) nilA)))))) (retS (tupD (consA (cst (.str "form")) nilA))) skipS)
  (seqS (ifS (notT (asB (callP 1 F_are_signs (consA (op2 ixD (consV 0 (consA (cst (.int 1)) nilA))) nilA)))) (retS (tupD (consA (cst (.str "signs")) nilA))) skipS)
  (seqS (ifS (notT (asB (callP 3 F_is_text_of (consA (op2 ixD (consV 0 (consA (cst (.int 1)) nilA))) (consA (op2 ixD (consV 0 (consA (cst (.int 2)) nilA))) (consA (cst (.int 1000)) nilA)))))) (retS (tupD (consA (cst (.str "first")) nilA))) skipS)
  (seqS (ifS (notT (asB (callP 2 F_are_rows (consA (op2 ixD (consV 0 (consA (cst (.int 1)) nilA))) (consA (op2 ixD (consV 0 (consA (cst (.int 3)) nilA))) nilA))))) (retS (tupD (consA (cst (.str "moves")) nilA))) skipS)
  (seqS (forS (enF (consA (op2 ixD (consV 0 (consA (cst (.int 3)) nilA))) nilA)) (tupG 2 (consG (nameG 1) (consG (nameG 2) nilG))) (forS (enF (consA (vf 2) nilA)) (tupG 2 (consG (nameG 3) (consG (nameG 4) nilG))) (ifS (notT (asB (callP 3 F_is_move (consA (op2 ixD (consV 0 (consA (cst (.int 1)) nilA))) (consA (opN lenG (consA (op2 ixD (consV 0 (consA (cst (.int 3)) nilA))) nilA)) (consA (vf 4) nilA)))))) (retS (tupD (consA (cst (.str "move")) (consA (vf 1) (consA (vf 3) nilA))))) skipS)))
  (seqS (ifS (orT (notT (asB (callP 2 F_is_tuple (consA (op2 ixD (consV 0 (consA (cst (.int 4)) nilA))) (consA (opN lenG (consA (op2 ixD (consV 0 (consA (cst (.int 3)) nilA))) nilA)) nilA))))) (notT (asB (opN allG (consA (lcF (itF (op2 ixD (consV 0 (consA (cst (.int 4)) nilA)))) (nameG 4) yesT (callP 3 F_is_text_of (consA (op2 ixD (consV 0 (consA (cst (.int 1)) nilA))) (consA (vf 4) (consA (cst (.int 1000)) nilA)))) [4]) nilA))))) (retS (tupD (consA (cst (.str "ends")) nilA))) skipS)
  (retS (cst .none))))))))
theorem b_flaw_of (x : Fx K mg) : Binds K x.fd_flaw_of ["value"] [] := x.F_flaw_of.bindsN fun _ _ _ _ _ _ us hl => match us, hl with | [_], _ => rfl
def F_flaw_of : List D → Option D := semP 5 false G_flaw_of
theorem ok_flaw_of (x : Fx K mg) : FnG P w K mg base 4 x.f_flaw_of x.fd_flaw_of ["value"] (spP K false 1 F_flaw_of) := by
  refine fn_p x.F_flaw_of sc_flaw_of fun cdv A outer s H E hr => ?_
  have nd := sc_flaw_of.nd
  exact (sb_cons (ss_if (sw_or (st_not (st_val (se_call (ok_is_tuple x) (hr.mono (by decide)) (by rfl) x.m_is_tuple x.F_is_tuple.kp (b_is_tuple x) (sf_cons (nm 0) (sf_cons se_int sf_nil))))) (sw_or (st_not (st_val (se_isi .str (by rfl) x.n_isinstance (by rfl) x.n_str boot_str (se_ix (x_ix hr.u1) (av 0 (sa_cons se_int sa_nil)) (by intro _ _; rfl))))) (sw_or1 (st_cmp (o_neE hr.u65) (sa_cons (se_ix (x_ix hr.u1) (av 0 (sa_cons se_int sa_nil)) (by intro _ _; rfl)) (sa_cons se_str sa_nil)) (by first | exact nomark _ | with_unfolding_all rfl))))).st (sb_one (ss_ret (se_tup (sf_cons se_str sf_nil)))) sb_nil)
    (sb_cons (ss_if (st_not (st_val (se_call (ok_are_signs x) (hr.mono (by decide)) (by rfl) x.m_are_signs x.F_are_signs.kp (b_are_signs x) (sf_cons (se_ix (x_ix hr.u1) (av 0 (sa_cons se_int sa_nil)) (by intro _ _; rfl)) sf_nil)))) (sb_one (ss_ret (se_tup (sf_cons se_str sf_nil)))) sb_nil)
    (sb_cons (ss_if (st_not (st_val (se_call (ok_is_text_of x) (hr.mono (by decide)) (by rfl) x.m_is_text_of x.F_is_text_of.kp (b_is_text_of x) (sf_cons (se_ix (x_ix hr.u1) (av 0 (sa_cons se_int sa_nil)) (by intro _ _; rfl)) (sf_cons (se_ix (x_ix hr.u1) (av 0 (sa_cons se_int sa_nil)) (by intro _ _; rfl)) (sf_cons (gi x.c_MOST_STRING) sf_nil)))))) (sb_one (ss_ret (se_tup (sf_cons se_str sf_nil)))) sb_nil)
    (sb_cons (ss_if (st_not (st_val (se_call (ok_are_rows x) (hr.mono (by decide)) (by rfl) x.m_are_rows x.F_are_rows.kp (b_are_rows x) (sf_cons (se_ix (x_ix hr.u1) (av 0 (sa_cons se_int sa_nil)) (by intro _ _; rfl)) (sf_cons (se_ix (x_ix hr.u1) (av 0 (sa_cons se_int sa_nil)) (by intro _ _; rfl)) sf_nil))))) (sb_one (ss_ret (se_tup (sf_cons se_str sf_nil)))) sb_nil)
    (sb_cons (ss_for PassesOwn.never rfl (si_en (by rfl) x.n_enumerate (sf_cons (se_ix (x_ix hr.u1) (av 0 (sa_cons se_int sa_nil)) (by intro _ _; rfl)) sf_nil)) (sg_tup rfl (sgs_cons (sg_name (i := 1) nd (by rfl) (by first | exact Or.inl rfl | exact Or.inr rfl)) (sgs_cons (sg_name (i := 2) nd (by rfl) (by first | exact Or.inl rfl | exact Or.inr rfl)) sgs_nil))) (sb_one (ss_for PassesOwn.never rfl (si_en (by rfl) x.n_enumerate (sf_cons (nm 2) sf_nil)) (sg_tup rfl (sgs_cons (sg_name (i := 3) nd (by rfl) (by first | exact Or.inl rfl | exact Or.inr rfl)) (sgs_cons (sg_name (i := 4) nd (by rfl) (by first | exact Or.inl rfl | exact Or.inr rfl)) sgs_nil))) (sb_one (ss_if (st_not (st_val (se_call (ok_is_move x) (hr.mono (by decide)) (by rfl) x.m_is_move x.F_is_move.kp (b_is_move x) (sf_cons (se_ix (x_ix hr.u1) (av 0 (sa_cons se_int sa_nil)) (by intro _ _; rfl)) (sf_cons (se_blt c_len (by rfl) x.n_len boot_len (sa_cons (se_ix (x_ix hr.u1) (av 0 (sa_cons se_int sa_nil)) (by intro _ _; rfl)) sa_nil)) (sf_cons (nm 4) sf_nil)))))) (sb_one (ss_ret (se_tup (sf_cons se_str (sf_cons (nm 1) (sf_cons (nm 3) sf_nil)))))) sb_nil)))))
    (sb_cons (ss_if (sw_or (st_not (st_val (se_call (ok_is_tuple x) (hr.mono (by decide)) (by rfl) x.m_is_tuple x.F_is_tuple.kp (b_is_tuple x) (sf_cons (se_ix (x_ix hr.u1) (av 0 (sa_cons se_int sa_nil)) (by intro _ _; rfl)) (sf_cons (se_blt c_len (by rfl) x.n_len boot_len (sa_cons (se_ix (x_ix hr.u1) (av 0 (sa_cons se_int sa_nil)) (by intro _ _; rfl)) sa_nil)) sf_nil))))) (sw_or1 (st_not (st_val (se_blt (c_all rfl) (by rfl) x.n_all boot_all (sa_cons (so_lc (own := [("one", 4)]) rfl nd (si_any (se_ix (x_ix hr.u1) (av 0 (sa_cons se_int sa_nil)) (by intro _ _; rfl))) (blkOk_by (by kernel_rfl)) (by decide) (fun _ _ _ _ _ => (sg_name (i := 4) nd (by rfl) (by first | exact Or.inl rfl | exact Or.inr rfl))) (fun _ _ _ _ _ => sts_nil) (fun _ _ _ _ _ => (se_call (ok_is_text_of x) (hr.mono (by decide)) (by rfl) x.m_is_text_of x.F_is_text_of.kp (b_is_text_of x) (sf_cons (se_ix (x_ix hr.u1) (av 0 (sa_cons se_int sa_nil)) (by intro _ _; rfl)) (sf_cons (nm 4) (sf_cons (gi x.c_MOST_STRING) sf_nil)))))).se sa_nil)))))).st (sb_one (ss_ret (se_tup (sf_cons se_str sf_nil)))) sb_nil)
    (sb_one (ss_ret se_non))))))))
/-! machine_flaw : level 5 -/
abbrev N_machine_flaw : List Str := ["value"]
theorem sc_machine_flaw : FnScope N_machine_flaw ["value"] (defScope s_machine_flaw) := ⟨rfl, rfl, rfl, by decide +kernel, rfl, by decide +kernel, by decide +kernel⟩
def G_machine_flaw : Fs := (retS (callP 1 F_flaw_of (consA (vf 0) nilA)))
theorem b_machine_flaw (x : Fx K mg) : Binds K x.fd_machine_flaw ["value"] [] := x.F_machine_flaw.bindsN fun _ _ _ _ _ _ us hl => match us, hl with | [_], _ => rfl
def F_machine_flaw : List D → Option D := semP 1 false G_machine_flaw
theorem ok_machine_flaw (x : Fx K mg) : FnG P w K mg base 5 x.f_machine_flaw x.fd_machine_flaw ["value"] (spP K false 1 F_machine_flaw) := by
  refine fn_p x.F_machine_flaw sc_machine_flaw fun cdv A outer s H E hr => ?_
  have nd := sc_machine_flaw.nd
  exact (sb_one (ss_ret (se_call (ok_flaw_of x) (hr.mono (by decide)) (by rfl) x.m_flaw_of x.F_flaw_of.kp (b_flaw_of x) (sf_cons (nm 0) sf_nil))))
/-! is_machine_any : level 4 -/
abbrev N_is_machine_any : List Str := ["value", "signs", "first", "moves", "ends", "row", "one"]
theorem sc_is_machine_any : FnScope N_is_machine_any ["value"] (defScope s_is_machine_any) := ⟨rfl, rfl, rfl, by decide +kernel, rfl, by decide +kernel, by decide +kernel⟩
def G_is_machine_any : Fs := (seqS (ifS (orT (notT (asB (callP 2 F_is_tuple (consA (vf 0) (consA (cst (.int 5)) nilA))))) (orT (notT (asB (isiF .str (op2 ixD (consV 0 (consA (cst (.int 0)) nilA)))))) (orT (asB (op2 neE (consA (op2 ixD (consV 0 (consA (cst (.int 0)) nilA))) (consA (cst (.str "machine")) nilA)))) (notT (asB (callP 1 F_are_signs (consA (op2 ixD (consV 0 (consA (cst (.int 1)) nilA))) nilA))))))) (retS (cst (.bool false))) skipS)
  (seqS (asgS (slF slD (vf 0) (atP (cst (.int 1))) noP) (tupG 4 (consG (nameG 1) (consG (nameG 2) (consG (nameG 3) (consG (nameG 4) nilG))))))
  (seqS (ifS (orT (notT (asB (callP 3 F_is_text_of (consA (vf 1) (consA (vf 2) (consA (cst (.int 1000)) nilA)))))) (orT (notT (asB (isiF .tup (vf 3)))) (notT (chF leD leD (cst (.int 1)) (opN lenG (consV 3 nilA)) (cst (.int 200)))))) (retS (cst (.bool false))) skipS)
  (seqS (ifS (orT (notT (asB (callP 2 F_is_tuple (consA (vf 4) (consA (opN lenG (consV 3 nilA)) nilA))))) (notT (asB (opN allG (consA (lcF (itF (vf 4)) (nameG 6) yesT (callP 3 F_is_text_of (consA (vf 1) (consA (vf 6) (consA (cst (.int 1000)) nilA)))) [6]) nilA))))) (retS (cst (.bool false))) skipS)
  (seqS (ifS (notT (asB (opN allG (consA (lcF (itF (vf 3)) (nameG 5) yesT (callP 2 F_is_tuple (consA (vf 5) (consA (opN lenG (consV 1 nilA)) nilA))) [5]) nilA)))) (retS (cst (.bool false))) skipS)
  (retS (opN allG (consA (lcF (itF (vf 3)) (nameG 5) yesT (opN allG (consA (lcF (itF (vf 5)) (nameG 6) yesT (callP 3 F_is_move (consA (vf 1) (consA (opN lenG (consV 3 nilA)) (consA (vf 6) nilA)))) [6]) nilA)) [5]) nilA))))))))
theorem b_is_machine_any (x : Fx K mg) : Binds K x.fd_is_machine_any ["value"] [] := x.F_is_machine_any.bindsN fun _ _ _ _ _ _ us hl => match us, hl with | [_], _ => rfl
def F_is_machine_any : List D → Option D := semP 7 false G_is_machine_any
theorem ok_is_machine_any (x : Fx K mg) : FnG P w K mg base 4 x.f_is_machine_any x.fd_is_machine_any ["value"] (spP K false 1 F_is_machine_any) := by
  refine fn_p x.F_is_machine_any sc_is_machine_any fun cdv A outer s H E hr => ?_
  have nd := sc_is_machine_any.nd
  exact (sb_cons (ss_if (sw_or (st_not (st_val (se_call (ok_is_tuple x) (hr.mono (by decide)) (by rfl) x.m_is_tuple x.F_is_tuple.kp (b_is_tuple x) (sf_cons (nm 0) (sf_cons se_int sf_nil))))) (sw_or (st_not (st_val (se_isi .str (by rfl) x.n_isinstance (by rfl) x.n_str boot_str (se_ix (x_ix hr.u1) (av 0 (sa_cons se_int sa_nil)) (by intro _ _; rfl))))) (sw_or (st_cmp (o_neE hr.u65) (sa_cons (se_ix (x_ix hr.u1) (av 0 (sa_cons se_int sa_nil)) (by intro _ _; rfl)) (sa_cons se_str sa_nil)) (by first | exact nomark _ | with_unfolding_all rfl)) (sw_or1 (st_not (st_val (se_call (ok_are_signs x) (hr.mono (by decide)) (by rfl) x.m_are_signs x.F_are_signs.kp (b_are_signs x) (sf_cons (se_ix (x_ix hr.u1) (av 0 (sa_cons se_int sa_nil)) (by intro _ _; rfl)) sf_nil)))))))).st (sb_one (ss_ret se_bl)) sb_nil)
    (sb_cons (ss_asg (se_sl (nm 0) (sp_some se_int) sp_none) (sg_tup rfl (sgs_cons (sg_name (i := 1) nd (by rfl) (by first | exact Or.inl rfl | exact Or.inr rfl)) (sgs_cons (sg_name (i := 2) nd (by rfl) (by first | exact Or.inl rfl | exact Or.inr rfl)) (sgs_cons (sg_name (i := 3) nd (by rfl) (by first | exact Or.inl rfl | exact Or.inr rfl)) (sgs_cons (sg_name (i := 4) nd (by rfl) (by first | exact Or.inl rfl | exact Or.inr rfl)) sgs_nil))))))
    (sb_cons (ss_if (sw_or (st_not (st_val (se_call (ok_is_text_of x) (hr.mono (by decide)) (by rfl) x.m_is_text_of x.F_is_text_of.kp (b_is_text_of x) (sf_cons (nm 1) (sf_cons (nm 2) (sf_cons (gi x.c_MOST_STRING) sf_nil)))))) (sw_or (st_not (st_val (se_isi .tup (by rfl) x.n_isinstance (by rfl) x.n_tuple boot_tuple (nm 3)))) (sw_or1 (st_not (st_chain o_le o_le se_int (se_blt c_len (by rfl) x.n_len boot_len (av 3 sa_nil)) (gi x.c_MOST_STATES)))))).st (sb_one (ss_ret se_bl)) sb_nil)
    (sb_cons (ss_if (sw_or (st_not (st_val (se_call (ok_is_tuple x) (hr.mono (by decide)) (by rfl) x.m_is_tuple x.F_is_tuple.kp (b_is_tuple x) (sf_cons (nm 4) (sf_cons (se_blt c_len (by rfl) x.n_len boot_len (av 3 sa_nil)) sf_nil))))) (sw_or1 (st_not (st_val (se_blt (c_all rfl) (by rfl) x.n_all boot_all (sa_cons (so_lc (own := [("one", 6)]) rfl nd (si_any (nm 4)) (blkOk_by (by kernel_rfl)) (by decide) (fun _ _ _ _ _ => (sg_name (i := 6) nd (by rfl) (by first | exact Or.inl rfl | exact Or.inr rfl))) (fun _ _ _ _ _ => sts_nil) (fun _ _ _ _ _ => (se_call (ok_is_text_of x) (hr.mono (by decide)) (by rfl) x.m_is_text_of x.F_is_text_of.kp (b_is_text_of x) (sf_cons (nm 1) (sf_cons (nm 6) (sf_cons (gi x.c_MOST_STRING) sf_nil)))))).se sa_nil)))))).st (sb_one (ss_ret se_bl)) sb_nil)
    (sb_cons (ss_if (st_not (st_val (se_blt (c_all rfl) (by rfl) x.n_all boot_all (sa_cons (so_lc (own := [("row", 5)]) rfl nd (si_any (nm 3)) (blkOk_by (by kernel_rfl)) (by decide) (fun _ _ _ _ _ => (sg_name (i := 5) nd (by rfl) (by first | exact Or.inl rfl | exact Or.inr rfl))) (fun _ _ _ _ _ => sts_nil) (fun _ _ _ _ _ => (se_call (ok_is_tuple x) (hr.mono (by decide)) (by rfl) x.m_is_tuple x.F_is_tuple.kp (b_is_tuple x) (sf_cons (nm 5) (sf_cons (se_blt c_len (by rfl) x.n_len boot_len (av 1 sa_nil)) sf_nil))))).se sa_nil)))) (sb_one (ss_ret se_bl)) sb_nil)
    (sb_one (ss_ret (se_blt (c_all rfl) (by rfl) x.n_all boot_all (sa_cons (so_lc (own := [("row", 5)]) rfl nd (si_any (nm 3)) (blkOk_by (by kernel_rfl)) (by decide) (fun _ _ _ _ _ => (sg_name (i := 5) nd (by rfl) (by first | exact Or.inl rfl | exact Or.inr rfl))) (fun _ _ _ _ _ => sts_nil) (fun _ _ _ _ _ => (se_blt (c_all rfl) (by rfl) x.n_all boot_all (sa_cons (so_lc (own := [("one", 6)]) rfl nd (si_any (nm 5)) (blkOk_by (by kernel_rfl)) (by decide) (fun _ _ _ _ _ => (sg_name (i := 6) nd (by rfl) (by first | exact Or.inl rfl | exact Or.inr rfl))) (fun _ _ _ _ _ => sts_nil) (fun _ _ _ _ _ => (se_call (ok_is_move x) (hr.mono (by decide)) (by rfl) x.m_is_move x.F_is_move.kp (b_is_move x) (sf_cons (nm 1) (sf_cons (se_blt c_len (by rfl) x.n_len boot_len (av 3 sa_nil)) (sf_cons (nm 6) sf_nil)))))).se sa_nil)))).se sa_nil)))))))))
/-! is_machine : level 5 -/
abbrev N_is_machine : List Str := ["value"]
theorem sc_is_machine : FnScope N_is_machine ["value"] (defScope s_is_machine) := ⟨rfl, rfl, rfl, by decide +kernel, rfl, by decide +kernel, by decide +kernel⟩
def G_is_machine : Fs := (retS (callP 1 F_is_machine_any (consA (vf 0) nilA)))
theorem b_is_machine (x : Fx K mg) : Binds K x.fd_is_machine ["value"] [] := x.F_is_machine.bindsN fun _ _ _ _ _ _ us hl => match us, hl with | [_], _ => rfl
def F_is_machine : List D → Option D := semP 1 false G_is_machine
theorem ok_is_machine (x : Fx K mg) : FnG P w K mg base 5 x.f_is_machine x.fd_is_machine ["value"] (spP K false 1 F_is_machine) := by
  refine fn_p x.F_is_machine sc_is_machine fun cdv A outer s H E hr => ?_
  have nd := sc_is_machine.nd
  exact (sb_one (ss_ret (se_call (ok_is_machine_any x) (hr.mono (by decide)) (by rfl) x.m_is_machine_any x.F_is_machine_any.kp (b_is_machine_any x) (sf_cons (nm 0) sf_nil))))
/-! _law_value_right : level 6 -/
abbrev N__law_value_right : List Str := ["value", "due", "shown"]
theorem sc__law_value_right : FnScope N__law_value_right ["value"] (defScope s__law_value_right) := ⟨rfl, rfl, rfl, by decide +kernel, rfl, by decide +kernel, by decide +kernel⟩
def G__law_value_right : Fs := (seqS (parS [1, 2] (consMf (callP 1 F__law_flaw (consA (vf 0) nilA)) (consMf (opN repG (consV 0 nilA)) nilM)))
  (seqS (ifS (orT (asB (op2 neE (consA (opN repG (consA (lstD (consA (callP 1 F_machine_flaw (consA (vf 0) nilA)) (consA (callK 1 1 (pick [0]) F_machine_flaw (consA (vf 0) nilA)) nilA))) nilA)) (consA (opN repG (consA (lstD (consA (vf 1) (consA (vf 1) nilA))) nilA)) nilA)))) (asB (op2 neE (consA (opN repG (consV 0 nilA)) (consV 2 nilA))))) (retS (cst (.bool false))) skipS)
  (retS (op2 eqE (consA (opN repG (consA (lstD (consA (callP 1 F_is_machine (consA (vf 0) nilA)) (consA (callK 1 1 (pick [0]) F_is_machine (consA (vf 0) nilA)) nilA))) nilA)) (consA (opN repG (consA (lstD (consA (op2 isD (consV 1 (consA (cst .none) nilA))) (consA (op2 isD (consV 1 (consA (cst .none) nilA))) nilA))) nilA)) nilA))))))
theorem b__law_value_right (x : Fx K mg) : Binds K x.fd__law_value_right ["value"] [] := x.F__law_value_right.bindsN fun _ _ _ _ _ _ us hl => match us, hl with | [_], _ => rfl
def F__law_value_right : List D → Option D := semP 3 false G__law_value_right
theorem ok__law_value_right (x : Fx K mg) : FnG P w K mg base 6 x.f__law_value_right x.fd__law_value_right ["value"] (spP K false 1 F__law_value_right) := by
  refine fn_p x.F__law_value_right sc__law_value_right fun cdv A outer s H E hr => ?_
  have nd := sc__law_value_right.nd
  exact (sb_cons (ss_par2 (i := 1) (j := 2) rfl nd (by rfl) (by rfl) (by decide) (by rfl) (by rfl) (sm_fz (se_call (ok__law_flaw x) (hr.mono (by decide)) (by rfl) x.m__law_flaw x.F__law_flaw.kp (b__law_flaw x) (sf_cons (nm 0) sf_nil)) (sm_fz (se_blt (c_rep hr.g hr.u100) (by rfl) x.n_repr boot_repr (av 0 sa_nil)) sm_nil)) (by rfl))
    (sb_cons (ss_if (sw_or (st_cmp (o_neE hr.u65) (sa_cons (se_blt (c_rep hr.g hr.u100) (by rfl) x.n_repr boot_repr (sa_cons (so_lst (sf_cons (se_call (ok_machine_flaw x) (hr.mono (by decide)) (by rfl) x.m_machine_flaw x.F_machine_flaw.kp (b_machine_flaw x) (sf_cons (nm 0) sf_nil)) (sf_cons (se_callK (ks := ["value"]) (pm := pick [0]) (pV := pick [0]) (fun h => pick_fz h _) (ok_machine_flaw x) (hr.mono (by decide)) (by rfl) x.m_machine_flaw x.F_machine_flaw.kp (kbn0 [0] x.F_machine_flaw fun _ _ _ _ _ _ ws hl => match ws, hl with | [_], _ => rfl) (by rfl) (sk_cons (nm 0) sk_nil)) sf_nil))).se sa_nil)) (sa_cons (se_blt (c_rep hr.g hr.u100) (by rfl) x.n_repr boot_repr (sa_cons (so_lst (sf_cons (nm 1) (sf_cons (nm 1) sf_nil))).se sa_nil)) sa_nil)) (by first | exact nomark _ | with_unfolding_all rfl)) (sw_or1 (st_cmp (o_neE hr.u65) (sa_cons (se_blt (c_rep hr.g hr.u100) (by rfl) x.n_repr boot_repr (av 0 sa_nil)) (av 2 sa_nil)) (by first | exact nomark _ | with_unfolding_all rfl)))).st (sb_one (ss_ret se_bl)) sb_nil)
    (sb_one (ss_ret (se_cmp (o_eqE hr.u65) (sa_cons (se_blt (c_rep hr.g hr.u100) (by rfl) x.n_repr boot_repr (sa_cons (so_lst (sf_cons (se_call (ok_is_machine x) (hr.mono (by decide)) (by rfl) x.m_is_machine x.F_is_machine.kp (b_is_machine x) (sf_cons (nm 0) sf_nil)) (sf_cons (se_callK (ks := ["value"]) (pm := pick [0]) (pV := pick [0]) (fun h => pick_fz h _) (ok_is_machine x) (hr.mono (by decide)) (by rfl) x.m_is_machine x.F_is_machine.kp (kbn0 [0] x.F_is_machine fun _ _ _ _ _ _ ws hl => match ws, hl with | [_], _ => rfl) (by rfl) (sk_cons (nm 0) sk_nil)) sf_nil))).se sa_nil)) (sa_cons (se_blt (c_rep hr.g hr.u100) (by rfl) x.n_repr boot_repr (sa_cons (so_lst (sf_cons (se_cmp o_is (av 1 (sa_cons se_non sa_nil)) (by first | exact nomark _ | with_unfolding_all rfl)) (sf_cons (se_cmp o_is (av 1 (sa_cons se_non sa_nil)) (by first | exact nomark _ | with_unfolding_all rfl)) sf_nil))).se sa_nil)) sa_nil)) (by first | exact nomark _ | with_unfolding_all rfl))))))
/-! want_machine : level 5 -/
abbrev N_want_machine : List Str := ["machine"]
theorem sc_want_machine : FnScope N_want_machine ["machine"] (defScope s_want_machine) := ⟨rfl, rfl, rfl, by decide +kernel, rfl, by decide +kernel, by decide +kernel⟩
def G_want_machine : Fs := (ifS (notT (asB (callP 1 F_is_machine_any (consA (vf 0) nilA)))) (fun _ => none) skipS)
theorem b_want_machine (x : Fx K mg) : Binds K x.fd_want_machine ["machine"] [] := x.F_want_machine.bindsN fun _ _ _ _ _ _ us hl => match us, hl with | [_], _ => rfl
def F_want_machine : List D → Option D := semP 1 false G_want_machine
theorem ok_want_machine (x : Fx K mg) : FnG P w K mg base 5 x.f_want_machine x.fd_want_machine ["machine"] (spP K false 1 F_want_machine) := by
  refine fn_p x.F_want_machine sc_want_machine fun cdv A outer s H E hr => ?_
  have nd := sc_want_machine.nd
  exact (sb_one (ss_if (st_not (st_val (se_call (ok_is_machine_any x) (hr.mono (by decide)) (by rfl) x.m_is_machine_any x.F_is_machine_any.kp (b_is_machine_any x) (sf_cons (nm 0) sf_nil)))) (sb_one ss_never) sb_nil))
/-! is_word_of : level 2 -/
abbrev N_is_word_of : List Str := ["signs", "value"]
theorem sc_is_word_of : FnScope N_is_word_of ["signs", "value"] (defScope s_is_word_of) := ⟨rfl, rfl, rfl, by decide +kernel, rfl, by decide +kernel, by decide +kernel⟩
def G_is_word_of : Fs := (retS (callP 3 F_is_text_of (consA (vf 0) (consA (vf 1) (consA (cst (.int 60)) nilA)))))
theorem b_is_word_of (x : Fx K mg) : Binds K x.fd_is_word_of ["signs", "value"] [] := x.F_is_word_of.bindsN fun _ _ _ _ _ _ us hl => match us, hl with | [_, _], _ => rfl
def F_is_word_of : List D → Option D := semP 2 false G_is_word_of
theorem ok_is_word_of (x : Fx K mg) : FnG P w K mg base 2 x.f_is_word_of x.fd_is_word_of ["signs", "value"] (spP K false 2 F_is_word_of) := by
  refine fn_p x.F_is_word_of sc_is_word_of fun cdv A outer s H E hr => ?_
  have nd := sc_is_word_of.nd
  exact (sb_one (ss_ret (se_call (ok_is_text_of x) (hr.mono (by decide)) (by rfl) x.m_is_text_of x.F_is_text_of.kp (b_is_text_of x) (sf_cons (nm 0) (sf_cons (nm 1) (sf_cons (gi x.c_MOST_WORD) sf_nil))))))
/-! want_told : level 3 -/
abbrev N_want_told : List Str := ["machine", "word"]
theorem sc_want_told : FnScope N_want_told ["machine", "word"] (defScope s_want_told) := ⟨rfl, rfl, rfl, by decide +kernel, rfl, by decide +kernel, by decide +kernel⟩
def G_want_told : Fs := (ifS (notT (asB (callP 2 F_is_word_of (consA (op2 ixD (consV 0 (consA (cst (.int 1)) nilA))) (consA (vf 1) nilA))))) (fun _ => none) skipS)
theorem b_want_told (x : Fx K mg) : Binds K x.fd_want_told ["machine", "word"] [] := x.F_want_told.bindsN fun _ _ _ _ _ _ us hl => match us, hl with | [_, _], _ => rfl
def F_want_told : List D → Option D := semP 2 false G_want_told
theorem ok_want_told (x : Fx K mg) : FnG P w K mg base 3 x.f_want_told x.fd_want_told ["machine", "word"] (spP K false 2 F_want_told) := by
  refine fn_p x.F_want_told sc_want_told fun cdv A outer s H E hr => ?_
  have nd := sc_want_told.nd
  exact (sb_one (ss_if (st_not (st_val (se_call (ok_is_word_of x) (hr.mono (by decide)) (by rfl) x.m_is_word_of x.F_is_word_of.kp (b_is_word_of x) (sf_cons (se_ix (x_ix hr.u1) (av 0 (sa_cons se_int sa_nil)) (by intro _ _; rfl)) (sf_cons (nm 1) sf_nil))))) (sb_one ss_never) sb_nil))
/-! told_from : level 1 -/
abbrev N_told_from : List Str := ["machine", "state", "word", "signs", "found", "sign", "string"]
theorem sc_told_from : FnScope N_told_from ["machine", "state", "word"] (defScope s_told_from) := ⟨rfl, rfl, rfl, by decide +kernel, rfl, by decide +kernel, by decide +kernel⟩
def G_told_from : Fs := (seqS (parS [3, 4] (consMf (op2 ixD (consV 0 (consA (cst (.int 1)) nilA))) (consMo (lstD nilA) nilM)))
  (seqS (forS (itF (vf 2)) (nameG 5) (seqS (asgS (op2 ixD (consA (op2 ixD (consA (op2 ixD (consV 0 (consA (cst (.int 3)) nilA))) (consV 1 nilA))) (consA (metF okS sixG (vf 3) (consV 5 nilA)) nilA))) (tupG 2 (consG (nameG 6) (consG (nameG 1) nilG))))
  (exprS (mutF 2 4 appG (consA (vf 6) nilA)))))
  (retS (tupD (consA (metF okS joinG (cst (.str "")) (consV 4 nilA)) (consA (vf 1) nilA))))))
theorem b_told_from (x : Fx K mg) : Binds K x.fd_told_from ["machine", "state", "word"] [] := x.F_told_from.bindsN fun _ _ _ _ _ _ us hl => match us, hl with | [_, _, _], _ => rfl
def F_told_from : List D → Option D := semP 7 false G_told_from
theorem ok_told_from (x : Fx K mg) : FnG P w K mg base 1 x.f_told_from x.fd_told_from ["machine", "state", "word"] (spP K false 3 F_told_from) := by
  refine fn_p x.F_told_from sc_told_from fun cdv A outer s H E hr => ?_
  have nd := sc_told_from.nd
  exact (sb_cons (ss_par2 (i := 3) (j := 4) rfl nd (by rfl) (by rfl) (by decide) (by rfl) (by rfl) (sm_fz (se_ix (x_ix hr.u1) (av 0 (sa_cons se_int sa_nil)) (by intro _ _; rfl)) (sm_ow (so_lst sf_nil) sm_nil)) (by rfl))
    (sb_cons (ss_for PassesOwn.never rfl (si_any (nm 2)) (sg_name (i := 5) nd (by rfl) (by first | exact Or.inl rfl | exact Or.inr rfl)) (sb_cons (ss_asg (se_ix (x_ix hr.u1) (sa_cons (se_ix (x_ix hr.u1) (sa_cons (se_ix (x_ix hr.u1) (av 0 (sa_cons se_int sa_nil)) (by intro _ _; rfl)) (av 1 sa_nil)) (by intro _ _; rfl)) (sa_cons (se_met (ok := okS) PySem.F.plainAttrs_str PySem.F.slot_str_index PySem.F.type_str_index m_six ty_s (nm 3) (av 5 sa_nil)) sa_nil)) (by intro _ _; rfl)) (sg_tup rfl (sgs_cons (sg_name (i := 6) nd (by rfl) (by first | exact Or.inl rfl | exact Or.inr rfl)) (sgs_cons (sg_name (i := 1) nd (by rfl) (by first | exact Or.inl rfl | exact Or.inr rfl)) sgs_nil))))
    (sb_one (ss_expr (se_mut PySem.F.slot_list_append PySem.F.type_list_append m_append (i := 4) (by rfl) (by first | exact Or.inl rfl | exact Or.inr (Or.inl rfl) | exact Or.inr (Or.inr rfl)) (sf_cons (nm 6) sf_nil))))))
    (sb_one (ss_ret (se_tup (sf_cons (se_met (ok := okS) PySem.F.plainAttrs_str PySem.F.slot_str_join PySem.F.type_str_join m_join ty_s se_str (av 4 sa_nil)) (sf_cons (nm 1) sf_nil)))))))
/-! told_of : level 2 -/
abbrev N_told_of : List Str := ["machine", "word", "found", "state"]
theorem sc_told_of : FnScope N_told_of ["machine", "word"] (defScope s_told_of) := ⟨rfl, rfl, rfl, by decide +kernel, rfl, by decide +kernel, by decide +kernel⟩
def G_told_of : Fs := (seqS (asgS (callP 3 F_told_from (consA (vf 0) (consA (cst (.int 0)) (consA (vf 1) nilA)))) (tupG 2 (consG (nameG 2) (consG (nameG 3) nilG))))
  (retS (op2 addD (consA (op2 addD (consA (op2 ixD (consV 0 (consA (cst (.int 2)) nilA))) (consV 2 nilA))) (consA (op2 ixD (consA (op2 ixD (consV 0 (consA (cst (.int 4)) nilA))) (consV 3 nilA))) nilA)))))
theorem b_told_of (x : Fx K mg) : Binds K x.fd_told_of ["machine", "word"] [] := x.F_told_of.bindsN fun _ _ _ _ _ _ us hl => match us, hl with | [_, _], _ => rfl
def F_told_of : List D → Option D := semP 4 false G_told_of
theorem ok_told_of (x : Fx K mg) : FnG P w K mg base 2 x.f_told_of x.fd_told_of ["machine", "word"] (spP K false 2 F_told_of) := by
  refine fn_p x.F_told_of sc_told_of fun cdv A outer s H E hr => ?_
  have nd := sc_told_of.nd
  exact (sb_cons (ss_asg (se_call (ok_told_from x) (hr.mono (by decide)) (by rfl) x.m_told_from x.F_told_from.kp (b_told_from x) (sf_cons (nm 0) (sf_cons se_int (sf_cons (nm 1) sf_nil)))) (sg_tup rfl (sgs_cons (sg_name (i := 2) nd (by rfl) (by first | exact Or.inl rfl | exact Or.inr rfl)) (sgs_cons (sg_name (i := 3) nd (by rfl) (by first | exact Or.inl rfl | exact Or.inr rfl)) sgs_nil))))
    (sb_one (ss_ret (se_op2 o_add (sa_cons (se_op2 o_add (sa_cons (se_ix (x_ix hr.u1) (av 0 (sa_cons se_int sa_nil)) (by intro _ _; rfl)) (av 2 sa_nil))) (sa_cons (se_ix (x_ix hr.u1) (sa_cons (se_ix (x_ix hr.u1) (av 0 (sa_cons se_int sa_nil)) (by intro _ _; rfl)) (av 3 sa_nil)) (by intro _ _; rfl)) sa_nil))))))
/-! tells : level 6 -/
abbrev N_tells : List Str := ["machine", "word"]
theorem sc_tells : FnScope N_tells ["machine", "word"] (defScope s_tells) := ⟨rfl, rfl, rfl, by decide +kernel, rfl, by decide +kernel, by decide +kernel⟩
def G_tells : Fs := (seqS (exprS (callP 1 F_want_machine (consA (vf 0) nilA)))
  (seqS (exprS (callP 2 F_want_told (consA (vf 0) (consA (vf 1) nilA))))
  (retS (callP 2 F_told_of (consA (vf 0) (consA (vf 1) nilA))))))
theorem b_tells (x : Fx K mg) : Binds K x.fd_tells ["machine", "word"] [] := x.F_tells.bindsN fun _ _ _ _ _ _ us hl => match us, hl with | [_, _], _ => rfl
def F_tells : List D → Option D := semP 2 false G_tells
theorem ok_tells (x : Fx K mg) : FnG P w K mg base 6 x.f_tells x.fd_tells ["machine", "word"] (spP K false 2 F_tells) := by
  refine fn_p x.F_tells sc_tells fun cdv A outer s H E hr => ?_
  have nd := sc_tells.nd
  exact (sb_cons (ss_expr (se_call (ok_want_machine x) (hr.mono (by decide)) (by rfl) x.m_want_machine x.F_want_machine.kp (b_want_machine x) (sf_cons (nm 0) sf_nil)))
    (sb_cons (ss_expr (se_call (ok_want_told x) (hr.mono (by decide)) (by rfl) x.m_want_told x.F_want_told.kp (b_want_told x) (sf_cons (nm 0) (sf_cons (nm 1) sf_nil))))
    (sb_one (ss_ret (se_call (ok_told_of x) (hr.mono (by decide)) (by rfl) x.m_told_of x.F_told_of.kp (b_told_of x) (sf_cons (nm 0) (sf_cons (nm 1) sf_nil)))))))
/-! course_of : level 1 -/
abbrev N_course_of : List Str := ["machine", "word", "found", "sign"]
theorem sc_course_of : FnScope N_course_of ["machine", "word"] (defScope s_course_of) := ⟨rfl, rfl, rfl, by decide +kernel, rfl, by decide +kernel, by decide +kernel⟩
def G_course_of : Fs := (seqS (setO 2 (lstD (consA (cst (.int 0)) nilA)))
  (seqS (forS (itF (vf 1)) (nameG 3) (exprS (mutF 2 2 appG (consA (op2 ixD (consA (op2 ixD (consA (op2 ixD (consA (op2 ixD (consV 0 (consA (cst (.int 3)) nilA))) (consA (op2 ixD (consV 2 (consA (un1 negD (cst (.int 1))) nilA))) nilA))) (consA (metF okS sixG (op2 ixD (consV 0 (consA (cst (.int 1)) nilA))) (consV 3 nilA)) nilA))) (consA (cst (.int 1)) nilA))) nilA))))
  (retS (mvf 2))))
theorem b_course_of (x : Fx K mg) : Binds K x.fd_course_of ["machine", "word"] [] := x.F_course_of.bindsN fun _ _ _ _ _ _ us hl => match us, hl with | [_, _], _ => rfl
def F_course_of : List D → Option D := semP 4 true G_course_of
theorem ok_course_of (x : Fx K mg) : FnG P w K mg base 1 x.f_course_of x.fd_course_of ["machine", "word"] (spP K true 2 F_course_of) := by
  refine fn_p x.F_course_of sc_course_of fun cdv A outer s H E hr => ?_
  have nd := sc_course_of.nd
  exact (sb_cons (ss_setO (i := 2) nd (by rfl) (by first | exact Or.inl rfl | exact Or.inr rfl) (so_lst (sf_cons se_int sf_nil)))
    (sb_cons (ss_for PassesOwn.never rfl (si_any (nm 1)) (sg_name (i := 3) nd (by rfl) (by first | exact Or.inl rfl | exact Or.inr rfl)) (sb_one (ss_expr (se_mut PySem.F.slot_list_append PySem.F.type_list_append m_append (i := 2) (by rfl) (by first | exact Or.inl rfl | exact Or.inr (Or.inl rfl) | exact Or.inr (Or.inr rfl)) (sf_cons (se_ix (x_ix hr.u1) (sa_cons (se_ix (x_ix hr.u1) (sa_cons (se_ix (x_ix hr.u1) (sa_cons (se_ix (x_ix hr.u1) (av 0 (sa_cons se_int sa_nil)) (by intro _ _; rfl)) (sa_cons (se_ix (x_ix hr.u1) (av 2 (sa_cons (se_neg se_int) sa_nil)) (by intro _ _; rfl)) sa_nil)) (by intro _ _; rfl)) (sa_cons (se_met (ok := okS) PySem.F.plainAttrs_str PySem.F.slot_str_index PySem.F.type_str_index m_six ty_s (se_ix (x_ix hr.u1) (av 0 (sa_cons se_int sa_nil)) (by intro _ _; rfl)) (av 3 sa_nil)) sa_nil)) (by intro _ _; rfl)) (sa_cons se_int sa_nil)) (by intro _ _; rfl)) sf_nil)))))
    (sb_one (ss_retN (i := 2) (by rfl) (by first | exact Or.inl rfl | exact Or.inr (Or.inl rfl) | exact Or.inr (Or.inr rfl))))))
/-! course : level 6 -/
abbrev N_course : List Str := ["machine", "word"]
theorem sc_course : FnScope N_course ["machine", "word"] (defScope s_course) := ⟨rfl, rfl, rfl, by decide +kernel, rfl, by decide +kernel, by decide +kernel⟩
def G_course : Fs := (seqS (exprS (callP 1 F_want_machine (consA (vf 0) nilA)))
  (seqS (exprS (callP 2 F_want_told (consA (vf 0) (consA (vf 1) nilA))))
  (retS (callP 2 F_course_of (consA (vf 0) (consA (vf 1) nilA))))))
theorem b_course (x : Fx K mg) : Binds K x.fd_course ["machine", "word"] [] := x.F_course.bindsN fun _ _ _ _ _ _ us hl => match us, hl with | [_, _], _ => rfl
def F_course : List D → Option D := semP 2 true G_course
theorem ok_course (x : Fx K mg) : FnG P w K mg base 6 x.f_course x.fd_course ["machine", "word"] (spP K true 2 F_course) := by
  refine fn_p x.F_course sc_course fun cdv A outer s H E hr => ?_
  have nd := sc_course.nd
  exact (sb_cons (ss_expr (se_call (ok_want_machine x) (hr.mono (by decide)) (by rfl) x.m_want_machine x.F_want_machine.kp (b_want_machine x) (sf_cons (nm 0) sf_nil)))
    (sb_cons (ss_expr (se_call (ok_want_told x) (hr.mono (by decide)) (by rfl) x.m_want_told x.F_want_told.kp (b_want_told x) (sf_cons (nm 0) (sf_cons (nm 1) sf_nil))))
    (sb_one (ss_retO (so_call (ok_course_of x) (hr.mono (by decide)) (by rfl) x.m_course_of x.F_course_of.kp (b_course_of x) (sf_cons (nm 0) (sf_cons (nm 1) sf_nil)))))))
/-! _law_told_right : level 7 -/
abbrev N__law_told_right : List Str := ["pot", "machine", "word", "states", "told", "sign", "string", "late", "kept", "found"]
theorem sc__law_told_right : FnScope N__law_told_right ["pot", "machine", "word"] (defScope s__law_told_right) := ⟨rfl, rfl, rfl, by decide +kernel, rfl, by decide +kernel, by decide +kernel⟩
def G__law_told_right : Fs := (seqS (parS [3, 4] (consMo (lstD (consA (cst (.int 0)) nilA)) (consMf (op2 ixD (consV 1 (consA (cst (.int 2)) nilA))) nilM)))
  (seqS (forS (itF (vf 2)) (nameG 5) (seqS (asgS (op2 ixD (consA (op2 ixD (consA (op2 ixD (consV 1 (consA (cst (.int 3)) nilA))) (consA (op2 ixD (consV 3 (consA (un1 negD (cst (.int 1))) nilA))) nilA))) (consA (metF okS sixG (op2 ixD (consV 1 (consA (cst (.int 1)) nilA))) (consV 5 nilA)) nilA))) (tupG 2 (consG (nameG 6) (consG (nameG 7) nilG))))
  (seqS (setS 4 (op2 addD (consV 4 (consV 6 nilA))))
  (exprS (mutF 2 3 appG (consA (vf 7) nilA))))))
  (seqS (parS [4, 8] (consMf (op2 addD (consV 4 (consA (op2 ixD (consA (op2 ixD (consV 1 (consA (cst (.int 4)) nilA))) (consA (op2 ixD (consV 3 (consA (un1 negD (cst (.int 1))) nilA))) nilA))) nilA))) (consMf (opN repG (consA (lstD (consA (vf 1) (consA (vf 2) nilA))) nilA)) nilM)))
  (seqS (ifS (asB (op2 neE (consA (opN repG (consA (lstD (consA (callP 2 F_tells (consA (vf 1) (consA (vf 2) nilA))) (consA (callK 2 2 (pick [1, 0]) F_tells (consA (vf 2) (consA (vf 1) nilA))) nilA))) nilA)) (consA (opN repG (consA (lstD (consA (vf 4) (consA (vf 4) nilA))) nilA)) nilA)))) (retS (cst (.bool false))) skipS)
  (seqS (setO 9 (callP 2 F_course (consA (vf 1) (consA (vf 2) nilA))))
  (seqS (ifS (asB (op2 neE (consA (opN repG (mkL (consV 9 (consA (callK 2 2 (pick [1, 0]) F_course (consA (vf 2) (consA (vf 1) nilA))) nilA)))) (consA (opN repG (mkL (consV 3 (consV 3 nilA)))) nilA)))) (retS (cst (.bool false))) skipS)
  (seqS (exprS (mutF 2 9 appG (consA (cst .none) nilA)))
  (retS (andV (op2 eqE (consA (opN repG (consA (callP 2 F_course (consA (vf 1) (consA (vf 2) nilA))) nilA)) (consA (opN repG (consV 3 nilA)) nilA))) (op2 eqE (consA (opN repG (consA (lstD (consA (vf 1) (consA (vf 2) nilA))) nilA)) (consV 8 nilA))))))))))))
theorem b__law_told_right (x : Fx K mg) : Binds K x.fd__law_told_right ["pot", "machine", "word"] [] := x.F__law_told_right.bindsN fun _ _ _ _ _ _ us hl => match us, hl with | [_, _, _], _ => rfl
def M__law_told_right : D → List D → Option (D × D) := semM 10 false G__law_told_right
theorem ok__law_told_right (x : Fx K mg) : FnG P w K mg base 7 x.f__law_told_right x.fd__law_told_right ["pot", "machine", "word"] (spM K false 3 M__law_told_right) := by
  refine fn_m x.F__law_told_right sc__law_told_right (by decide) fun cdv A outer s H E a0 hr => ?_
  have nd := sc__law_told_right.nd
  exact (sb_cons (ss_par2 (i := 3) (j := 4) rfl nd (by rfl) (by rfl) (by decide) (by rfl) (by rfl) (sm_ow (so_lst (sf_cons se_int sf_nil)) (sm_fz (se_ix (x_ix hr.u1) (av 1 (sa_cons se_int sa_nil)) (by intro _ _; rfl)) sm_nil)) (by rfl))
    (sb_cons (ss_for PassesOwn.never rfl (si_any (nm 2)) (sg_name (i := 5) nd (by rfl) (by first | exact Or.inl rfl | exact Or.inr rfl)) (sb_cons (ss_asg (se_ix (x_ix hr.u1) (sa_cons (se_ix (x_ix hr.u1) (sa_cons (se_ix (x_ix hr.u1) (av 1 (sa_cons se_int sa_nil)) (by intro _ _; rfl)) (sa_cons (se_ix (x_ix hr.u1) (av 3 (sa_cons (se_neg se_int) sa_nil)) (by intro _ _; rfl)) sa_nil)) (by intro _ _; rfl)) (sa_cons (se_met (ok := okS) PySem.F.plainAttrs_str PySem.F.slot_str_index PySem.F.type_str_index m_six ty_s (se_ix (x_ix hr.u1) (av 1 (sa_cons se_int sa_nil)) (by intro _ _; rfl)) (av 5 sa_nil)) sa_nil)) (by intro _ _; rfl)) (sg_tup rfl (sgs_cons (sg_name (i := 6) nd (by rfl) (by first | exact Or.inl rfl | exact Or.inr rfl)) (sgs_cons (sg_name (i := 7) nd (by rfl) (by first | exact Or.inl rfl | exact Or.inr rfl)) sgs_nil))))
    (sb_cons (ss_set (i := 4) nd (by rfl) (by first | exact Or.inl rfl | exact Or.inr rfl) (se_op2 o_add (av 4 (av 6 sa_nil))))
    (sb_one (ss_expr (se_mut PySem.F.slot_list_append PySem.F.type_list_append m_append (i := 3) (by rfl) (by first | exact Or.inl rfl | exact Or.inr (Or.inl rfl) | exact Or.inr (Or.inr rfl)) (sf_cons (nm 7) sf_nil)))))))
    (sb_cons (ss_par2 (i := 4) (j := 8) rfl nd (by rfl) (by rfl) (by decide) (by rfl) (by rfl) (sm_fz (se_op2 o_add (av 4 (sa_cons (se_ix (x_ix hr.u1) (sa_cons (se_ix (x_ix hr.u1) (av 1 (sa_cons se_int sa_nil)) (by intro _ _; rfl)) (sa_cons (se_ix (x_ix hr.u1) (av 3 (sa_cons (se_neg se_int) sa_nil)) (by intro _ _; rfl)) sa_nil)) (by intro _ _; rfl)) sa_nil))) (sm_fz (se_blt (c_rep hr.g hr.u100) (by rfl) x.n_repr boot_repr (sa_cons (so_lst (sf_cons (nm 1) (sf_cons (nm 2) sf_nil))).se sa_nil)) sm_nil)) (by rfl))
    (sb_cons (ss_if (st_cmp (o_neE hr.u65) (sa_cons (se_blt (c_rep hr.g hr.u100) (by rfl) x.n_repr boot_repr (sa_cons (so_lst (sf_cons (se_call (ok_tells x) (hr.mono (by decide)) (by rfl) x.m_tells x.F_tells.kp (b_tells x) (sf_cons (nm 1) (sf_cons (nm 2) sf_nil))) (sf_cons (se_callK (ks := ["word", "machine"]) (pm := pick [1, 0]) (pV := pick [1, 0]) (fun h => pick_fz h _) (ok_tells x) (hr.mono (by decide)) (by rfl) x.m_tells x.F_tells.kp (kbn0 [1, 0] x.F_tells fun _ _ _ _ _ _ ws hl => match ws, hl with | [_, _], _ => rfl) (by rfl) (sk_cons (nm 2) (sk_cons (nm 1) sk_nil))) sf_nil))).se sa_nil)) (sa_cons (se_blt (c_rep hr.g hr.u100) (by rfl) x.n_repr boot_repr (sa_cons (so_lst (sf_cons (nm 4) (sf_cons (nm 4) sf_nil))).se sa_nil)) sa_nil)) (by first | exact nomark _ | with_unfolding_all rfl)) (sb_one (ss_ret se_bl)) sb_nil)
    (sb_cons (ss_setO (i := 9) nd (by rfl) (by first | exact Or.inl rfl | exact Or.inr rfl) (so_call (ok_course x) (hr.mono (by decide)) (by rfl) x.m_course x.F_course.kp (b_course x) (sf_cons (nm 1) (sf_cons (nm 2) sf_nil))))
    (sb_cons (ss_if (st_cmp (o_neE hr.u65) (sa_cons (se_repL (by rfl) x.n_repr hr.g hr.u100 (av 9 (sa_cons (so_callK (ks := ["word", "machine"]) (pm := pick [1, 0]) (pV := pick [1, 0]) (fun h => pick_fz h _) (ok_course x) (hr.mono (by decide)) (by rfl) x.m_course x.F_course.kp (kbn0 [1, 0] x.F_course fun _ _ _ _ _ _ ws hl => match ws, hl with | [_, _], _ => rfl) (by rfl) (sk_cons (nm 2) (sk_cons (nm 1) sk_nil))).se sa_nil))) (sa_cons (se_repL (by rfl) x.n_repr hr.g hr.u100 (av 3 (av 3 sa_nil))) sa_nil)) (by first | exact nomark _ | with_unfolding_all rfl)) (sb_one (ss_ret se_bl)) sb_nil)
    (sb_cons (ss_expr (se_mut PySem.F.slot_list_append PySem.F.type_list_append m_append (i := 9) (by rfl) (by first | exact Or.inl rfl | exact Or.inr (Or.inl rfl) | exact Or.inr (Or.inr rfl)) (sf_cons se_non sf_nil)))
    (sb_one (ss_ret (se_and (se_cmp (o_eqE hr.u65) (sa_cons (se_blt (c_rep hr.g hr.u100) (by rfl) x.n_repr boot_repr (sa_cons (so_call (ok_course x) (hr.mono (by decide)) (by rfl) x.m_course x.F_course.kp (b_course x) (sf_cons (nm 1) (sf_cons (nm 2) sf_nil))).se sa_nil)) (sa_cons (se_blt (c_rep hr.g hr.u100) (by rfl) x.n_repr boot_repr (av 3 sa_nil)) sa_nil)) (by first | exact nomark _ | with_unfolding_all rfl)) (se_one (se_cmp (o_eqE hr.u65) (sa_cons (se_blt (c_rep hr.g hr.u100) (by rfl) x.n_repr boot_repr (sa_cons (so_lst (sf_cons (nm 1) (sf_cons (nm 2) sf_nil))).se sa_nil)) (av 8 sa_nil)) (by first | exact nomark _ | with_unfolding_all rfl)))))))))))))
/-! _law_right : level 12 -/
abbrev N__law_right : List Str := ["pot", "machine", "values", "words", "turn", "word", "value"]
theorem sc__law_right : FnScope N__law_right ["pot"] (defScope s__law_right) := ⟨rfl, rfl, rfl, by decide +kernel, rfl, by decide +kernel, by decide +kernel⟩
def G__law_right : Fs := (seqS (setS 1 (callM 2 0 M__law_machine (consA (cst (.int 5)) nilA)))
  (seqS (setS 2 (lstD (consA (vf 1) (consA (opN lisG (consV 1 nilA)) (consA (slF slD (vf 1) noP (atP (cst (.int 4)))) (consA (op2 addD (consV 1 (consA (tupD (consA (cst (.int 0)) nilA)) nilA))) (consA (op2 addD (consA (tupD (consA (cst (.str "Machine")) nilA)) (consA (slF slD (vf 1) (atP (cst (.int 1))) noP) nilA))) (consA (cst .none) (consA (cst (.int 0)) (consA (cst (.str "machine")) (consA (tupD nilA) (consA emD nilA))))))))))))
  (seqS (setS 2 (op2 addD (consA (op2 addD (consV 2 (consA (callM 1 0 M__law_edges nilA) nilA))) (consA (lcF (rg1 (consA (cst (.int 24)) nilA)) (nameG 4) yesT (callM 2 0 M__law_bent (consA (vf 1) nilA)) [4]) nilA))))
  (seqS (ifS (orT (notT (asB (opN allG (consA (lcF (itF (vf 2)) (nameG 6) yesT (callP 1 F__law_value_right (consA (vf 6) nilA)) [6]) nilA)))) (asB (op2 isntD (consA (callP 1 F_is_machine (consA (vf 1) nilA)) (consA (cst (.bool true)) nilA))))) (retS (cst (.bool false))) skipS)
  (seqS (setS 3 (lstD (consA (cst (.str "")) (consA (callM 3 0 M__law_string (consA (op2 ixD (consV 1 (consA (cst (.int 1)) nilA))) (consA (cst (.int 12)) nilA))) (consA (op2 mulD (consA (op2 ixD (consA (op2 ixD (consV 1 (consA (cst (.int 1)) nilA))) (consA (un1 negD (cst (.int 1))) nilA))) (consA (cst (.int 60)) nilA))) (consA (callM 3 0 M__law_string (consA (op2 ixD (consV 1 (consA (cst (.int 1)) nilA))) (consA (cst (.int 60)) nilA))) nilA))))))
  (retS (opN allG (consA (lcF (itF (vf 3)) (nameG 5) yesT (callM 3 0 M__law_told_right (consA (vf 1) (consA (vf 5) nilA))) [5]) nilA))))))))
theorem b__law_right (x : Fx K mg) : Binds K x.fd__law_right ["pot"] [] := x.F__law_right.bindsN fun _ _ _ _ _ _ us hl => match us, hl with | [_], _ => rfl
def M__law_right : D → List D → Option (D × D) := semM 7 false G__law_right
theorem ok__law_right (x : Fx K mg) : FnG P w K mg base 12 x.f__law_right x.fd__law_right ["pot"] (spM K false 1 M__law_right) := by
  refine fn_m x.F__law_right sc__law_right (by decide) fun cdv A outer s H E a0 hr => ?_
  have nd := sc__law_right.nd
  exact (sb_cons (ss_set (i := 1) nd (by rfl) (by first | exact Or.inl rfl | exact Or.inr rfl) (se_callM (ok__law_machine x) (hr.mono (by decide)) (by rfl) x.m__law_machine x.F__law_machine.kp (b__law_machine x) (i := 0) (by rfl) (by first | exact Or.inl rfl | exact Or.inr (Or.inl rfl) | exact Or.inr (Or.inr rfl)) (sf_cons se_int sf_nil)))
    (sb_cons (ss_set (i := 2) nd (by rfl) (by first | exact Or.inl rfl | exact Or.inr rfl) (so_lst (sf_cons (nm 1) (sf_cons (so_bty (c_list rfl) (by rfl) x.n_list boot_list (av 1 sa_nil)).se (sf_cons (se_sl (nm 1) sp_none (sp_some se_int)) (sf_cons (se_op2 o_add (av 1 (sa_cons (se_tup (sf_cons se_int sf_nil)) sa_nil))) (sf_cons (se_op2 o_add (sa_cons (se_tup (sf_cons se_str sf_nil)) (sa_cons (se_sl (nm 1) (sp_some se_int) sp_none) sa_nil))) (sf_cons se_non (sf_cons se_int (sf_cons se_str (sf_cons (se_tup sf_nil) (sf_cons so_emp.se sf_nil))))))))))).se)
    (sb_cons (ss_set (i := 2) nd (by rfl) (by first | exact Or.inl rfl | exact Or.inr rfl) (se_op2 o_add (sa_cons (se_op2 o_add (av 2 (sa_cons (se_callM (ok__law_edges x) (hr.mono (by decide)) (by rfl) x.m__law_edges x.F__law_edges.kp (b__law_edges x) (i := 0) (by rfl) (by first | exact Or.inl rfl | exact Or.inr (Or.inl rfl) | exact Or.inr (Or.inr rfl)) sf_nil) sa_nil))) (sa_cons (so_lc (own := [("turn", 4)]) rfl nd (si_rg1 (by rfl) x.n_range (sa_cons se_int sa_nil)) (blkOk_by (by kernel_rfl)) (by decide) (fun _ _ _ _ _ => (sg_name (i := 4) nd (by rfl) (by first | exact Or.inl rfl | exact Or.inr rfl))) (fun _ _ _ _ _ => sts_nil) (fun _ _ _ _ _ => (se_callM (ok__law_bent x) (hr.mono (by decide)) (by rfl) x.m__law_bent x.F__law_bent.kp (b__law_bent x) (i := 0) (by rfl) (by first | exact Or.inl rfl | exact Or.inr (Or.inl rfl) | exact Or.inr (Or.inr rfl)) (sf_cons (nm 1) sf_nil)))).se sa_nil))))
    (sb_cons (ss_if (sw_or (st_not (st_val (se_blt (c_all rfl) (by rfl) x.n_all boot_all (sa_cons (so_lc (own := [("value", 6)]) rfl nd (si_any (nm 2)) (blkOk_by (by kernel_rfl)) (by decide) (fun _ _ _ _ _ => (sg_name (i := 6) nd (by rfl) (by first | exact Or.inl rfl | exact Or.inr rfl))) (fun _ _ _ _ _ => sts_nil) (fun _ _ _ _ _ => (se_call (ok__law_value_right x) (hr.mono (by decide)) (by rfl) x.m__law_value_right x.F__law_value_right.kp (b__law_value_right x) (sf_cons (nm 6) sf_nil)))).se sa_nil)))) (sw_or1 (st_cmp o_isnt (sa_cons (se_call (ok_is_machine x) (hr.mono (by decide)) (by rfl) x.m_is_machine x.F_is_machine.kp (b_is_machine x) (sf_cons (nm 1) sf_nil)) (sa_cons se_bl sa_nil)) (by first | exact nomark _ | with_unfolding_all rfl)))).st (sb_one (ss_ret se_bl)) sb_nil)
    (sb_cons (ss_set (i := 3) nd (by rfl) (by first | exact Or.inl rfl | exact Or.inr rfl) (so_lst (sf_cons se_str (sf_cons (se_callM (ok__law_string x) (hr.mono (by decide)) (by rfl) x.m__law_string x.F__law_string.kp (b__law_string x) (i := 0) (by rfl) (by first | exact Or.inl rfl | exact Or.inr (Or.inl rfl) | exact Or.inr (Or.inr rfl)) (sf_cons (se_ix (x_ix hr.u1) (av 1 (sa_cons se_int sa_nil)) (by intro _ _; rfl)) (sf_cons se_int sf_nil))) (sf_cons (se_op2 o_mul (sa_cons (se_ix (x_ix hr.u1) (sa_cons (se_ix (x_ix hr.u1) (av 1 (sa_cons se_int sa_nil)) (by intro _ _; rfl)) (sa_cons (se_neg se_int) sa_nil)) (by intro _ _; rfl)) (sa_cons se_int sa_nil))) (sf_cons (se_callM (ok__law_string x) (hr.mono (by decide)) (by rfl) x.m__law_string x.F__law_string.kp (b__law_string x) (i := 0) (by rfl) (by first | exact Or.inl rfl | exact Or.inr (Or.inl rfl) | exact Or.inr (Or.inr rfl)) (sf_cons (se_ix (x_ix hr.u1) (av 1 (sa_cons se_int sa_nil)) (by intro _ _; rfl)) (sf_cons se_int sf_nil))) sf_nil))))).se)
    (sb_one (ss_ret (se_blt (c_all rfl) (by rfl) x.n_all boot_all (sa_cons (so_lc (own := [("word", 5)]) rfl nd (si_any (nm 3)) (blkOk_by (by kernel_rfl)) (by decide) (fun _ _ _ _ _ => (sg_name (i := 5) nd (by rfl) (by first | exact Or.inl rfl | exact Or.inr rfl))) (fun _ _ _ _ _ => sts_nil) (fun _ _ _ _ _ => (se_callM (ok__law_told_right x) (hr.mono (by decide)) (by rfl) x.m__law_told_right x.F__law_told_right.kp (b__law_told_right x) (i := 0) (by rfl) (by first | exact Or.inl rfl | exact Or.inr (Or.inl rfl) | exact Or.inr (Or.inr rfl)) (sf_cons (nm 1) (sf_cons (nm 5) sf_nil))))).se sa_nil)))))))))
/-! _law_pot : level 1 -/
abbrev N__law_pot : List Str := ["script", "k", "cell"]
theorem sc__law_pot : FnScope N__law_pot ["script", "k"] (defScope s__law_pot) := ⟨rfl, rfl, rfl, by decide +kernel, rfl, by decide +kernel, by decide +kernel⟩
def G__law_pot : Fs := (seqS (setS 2 (ifE (asB (op2 ltD (consV 1 (consA (opN lenG (consV 0 nilA)) nilA)))) (opN absG (consA (op2 ixD (consV 0 (consV 1 nilA))) nilA)) (op2 addD (consA (op2 mulD (consA (cst (.int 2203)) (consV 1 nilA))) (consA (cst (.int 367)) nilA)))))
  (retS (lstD (consA (opN maxG (consA (cst (.int 0)) (consA (op2 subI (consV 2 (consA (op2 powI (consA (cst (.int 10)) (consA (cst (.int 18)) nilA))) nilA))) nilA))) (consA (op2 addD (consA (op2 modI (consA (opN intG (consA (op2 addD (consA (op2 addD (consA (op2 mulD (consA (op2 modI (consA (opN intG (consV 2 nilA)) (consA (cst (.int 2147483549)) nilA))) (consA (cst (.int 40014)) nilA))) (consA (op2 mulD (consA (cst (.int 5801)) (consV 1 nilA))) nilA))) (consA (cst (.int 1117)) nilA))) nilA)) (consA (cst (.int 2147483563)) nilA))) (consA (cst (.int 1)) nilA))) nilA)))))
theorem b__law_pot (x : Fx K mg) : Binds K x.fd__law_pot ["script", "k"] [] := x.F__law_pot.bindsN fun _ _ _ _ _ _ us hl => match us, hl with | [_, _], _ => rfl
def F__law_pot : List D → Option D := semP 3 true G__law_pot
theorem ok__law_pot (x : Fx K mg) : FnG P w K mg base 1 x.f__law_pot x.fd__law_pot ["script", "k"] (spP K true 2 F__law_pot) := by
  refine fn_p x.F__law_pot sc__law_pot fun cdv A outer s H E hr => ?_
  have nd := sc__law_pot.nd
  exact (sb_cons (ss_set (i := 2) nd (by rfl) (by first | exact Or.inl rfl | exact Or.inr rfl) (se_if (st_cmp o_lt (av 1 (sa_cons (se_blt c_len (by rfl) x.n_len boot_len (av 0 sa_nil)) sa_nil)) (by first | exact nomark _ | with_unfolding_all rfl)) (se_blt c_abs (by rfl) x.n_abs boot_abs (sa_cons (se_ix (x_ix hr.u1) (av 0 (av 1 sa_nil)) (by intro _ _; rfl)) sa_nil)) (se_op2 o_add (sa_cons (se_op2 o_mul (sa_cons se_int (av 1 sa_nil))) (sa_cons se_int sa_nil)))))
    (sb_one (ss_retO (so_lst (sf_cons (se_blt (c_max rfl) (by rfl) x.n_max boot_max (sa_cons se_int (sa_cons (se_op2 o_sub (av 2 (sa_cons (se_op2 o_pow (sa_cons se_int (sa_cons se_int sa_nil))) sa_nil))) sa_nil))) (sf_cons (se_op2 o_add (sa_cons (se_op2 o_mod (sa_cons (se_bty c_int (by rfl) x.n_int boot_int (sa_cons (se_op2 o_add (sa_cons (se_op2 o_add (sa_cons (se_op2 o_mul (sa_cons (se_op2 o_mod (sa_cons (se_bty c_int (by rfl) x.n_int boot_int (av 2 sa_nil)) (sa_cons se_int sa_nil))) (sa_cons se_int sa_nil))) (sa_cons (se_op2 o_mul (sa_cons se_int (av 1 sa_nil))) sa_nil))) (sa_cons se_int sa_nil))) sa_nil)) (sa_cons se_int sa_nil))) (sa_cons se_int sa_nil))) sf_nil))))))
/-! law : level 13 -/
abbrev N_law : List Str := ["script", "k"]
theorem sc_law : FnScope N_law ["script"] (defScope s_law) := ⟨rfl, rfl, rfl, by decide +kernel, rfl, by decide +kernel, by decide +kernel⟩
def G_law : Fs := (retS (opN allG (consA (lcF (rg1 (consA (opN maxG (consA (cst (.int 1)) (consA (opN minG (consA (cst (.int 3)) (consA (opN lenG (consV 0 nilA)) nilA))) nilA))) nilA)) (nameG 1) yesT (callN 1 M__law_right (callP 2 F__law_pot (consA (vf 0) (consA (vf 1) nilA))) nilA) [1]) nilA)))
theorem b_law (x : Fx K mg) : Binds K x.fd_law ["script"] [] := x.F_law.bindsN fun _ _ _ _ _ _ us hl => match us, hl with | [_], _ => rfl
def F_law : List D → Option D := semP 2 false G_law
theorem ok_law (x : Fx K mg) : FnG P w K mg base 13 x.f_law x.fd_law ["script"] (spP K false 1 F_law) := by
  refine fn_p x.F_law sc_law fun cdv A outer s H E hr => ?_
  have nd := sc_law.nd
  exact (sb_one (ss_ret (se_blt (c_all rfl) (by rfl) x.n_all boot_all (sa_cons (so_lc (own := [("k", 1)]) rfl nd (si_rg1 (by rfl) x.n_range (sa_cons (se_blt (c_max rfl) (by rfl) x.n_max boot_max (sa_cons se_int (sa_cons (se_blt (c_min rfl) (by rfl) x.n_min boot_min (sa_cons se_int (sa_cons (se_blt c_len (by rfl) x.n_len boot_len (av 0 sa_nil)) sa_nil))) sa_nil))) sa_nil)) (blkOk_by (by kernel_rfl)) (by decide) (fun _ _ _ _ _ => (sg_name (i := 1) nd (by rfl) (by first | exact Or.inl rfl | exact Or.inr rfl))) (fun _ _ _ _ _ => sts_nil) (fun _ _ _ _ _ => (se_callN (ok__law_right x) (hr.mono (by decide)) (by rfl) x.m__law_right x.F__law_right.kp (b__law_right x) (so_call (ok__law_pot x) (hr.mono (by decide)) (by rfl) x.m__law_pot x.F__law_pot.kp (b__law_pot x) (sf_cons (nm 0) (sf_cons (nm 1) sf_nil))) sf_nil))).se sa_nil))))
end
end K20

namespace K20
open PySem PySem.Spec PyProof.Rows L2 Ew
def d__law_draw : He.DefD := ⟨("_law_draw", none), "_law_draw", "_law_draw", defArgs s__law_draw, defBody s__law_draw, defScope s__law_draw, [], []⟩
def d__law_pick : He.DefD := ⟨("_law_pick", none), "_law_pick", "_law_pick", defArgs s__law_pick, defBody s__law_pick, defScope s__law_pick, [], []⟩
def d__law_string : He.DefD := ⟨("_law_string", none), "_law_string", "_law_string", defArgs s__law_string, defBody s__law_string, defScope s__law_string, [], []⟩
def d__law_machine : He.DefD := ⟨("_law_machine", none), "_law_machine", "_law_machine", defArgs s__law_machine, defBody s__law_machine, defScope s__law_machine, [], []⟩
def d__law_bent : He.DefD := ⟨("_law_bent", none), "_law_bent", "_law_bent", defArgs s__law_bent, defBody s__law_bent, defScope s__law_bent, [], []⟩
def d__law_edges : He.DefD := ⟨("_law_edges", none), "_law_edges", "_law_edges", defArgs s__law_edges, defBody s__law_edges, defScope s__law_edges, [], []⟩
def d__law_are_signs : He.DefD := ⟨("_law_are_signs", none), "_law_are_signs", "_law_are_signs", defArgs s__law_are_signs, defBody s__law_are_signs, defScope s__law_are_signs, [], []⟩
def d__law_is_string : He.DefD := ⟨("_law_is_string", none), "_law_is_string", "_law_is_string", defArgs s__law_is_string, defBody s__law_is_string, defScope s__law_is_string, [], []⟩
def d__law_is_move : He.DefD := ⟨("_law_is_move", none), "_law_is_move", "_law_is_move", defArgs s__law_is_move, defBody s__law_is_move, defScope s__law_is_move, [], []⟩
def d__law_flaw : He.DefD := ⟨("_law_flaw", none), "_law_flaw", "_law_flaw", defArgs s__law_flaw, defBody s__law_flaw, defScope s__law_flaw, [], []⟩
def d_is_tuple : He.DefD := ⟨("is_tuple", none), "is_tuple", "is_tuple", defArgs s_is_tuple, defBody s_is_tuple, defScope s_is_tuple, [], []⟩
def d_are_rising : He.DefD := ⟨("are_rising", none), "are_rising", "are_rising", defArgs s_are_rising, defBody s_are_rising, defScope s_are_rising, [], []⟩
def d_are_signs : He.DefD := ⟨("are_signs", none), "are_signs", "are_signs", defArgs s_are_signs, defBody s_are_signs, defScope s_are_signs, [], []⟩
def d_is_text_of : He.DefD := ⟨("is_text_of", none), "is_text_of", "is_text_of", defArgs s_is_text_of, defBody s_is_text_of, defScope s_is_text_of, [], []⟩
def d_are_rows : He.DefD := ⟨("are_rows", none), "are_rows", "are_rows", defArgs s_are_rows, defBody s_are_rows, defScope s_are_rows, [], []⟩
def d_is_integer : He.DefD := ⟨("is_integer", none), "is_integer", "is_integer", defArgs s_is_integer, defBody s_is_integer, defScope s_is_integer, [], []⟩
def d_is_within : He.DefD := ⟨("is_within", none), "is_within", "is_within", defArgs s_is_within, defBody s_is_within, defScope s_is_within, [], []⟩
def d_is_move : He.DefD := ⟨("is_move", none), "is_move", "is_move", defArgs s_is_move, defBody s_is_move, defScope s_is_move, [], []⟩
def d_flaw_of : He.DefD := ⟨("flaw_of", none), "flaw_of", "flaw_of", defArgs s_flaw_of, defBody s_flaw_of, defScope s_flaw_of, [], []⟩
def d_machine_flaw : He.DefD := ⟨("machine_flaw", none), "machine_flaw", "machine_flaw", defArgs s_machine_flaw, defBody s_machine_flaw, defScope s_machine_flaw, [], []⟩
def d_is_machine_any : He.DefD := ⟨("is_machine_any", none), "is_machine_any", "is_machine_any", defArgs s_is_machine_any, defBody s_is_machine_any, defScope s_is_machine_any, [], []⟩
def d_is_machine : He.DefD := ⟨("is_machine", none), "is_machine", "is_machine", defArgs s_is_machine, defBody s_is_machine, defScope s_is_machine, [], []⟩
def d__law_value_right : He.DefD := ⟨("_law_value_right", none), "_law_value_right", "_law_value_right", defArgs s__law_value_right, defBody s__law_value_right, defScope s__law_value_right, [], []⟩
def d_want_machine : He.DefD := ⟨("want_machine", none), "want_machine", "want_machine", defArgs s_want_machine, defBody s_want_machine, defScope s_want_machine, [], []⟩
def d_is_word_of : He.DefD := ⟨("is_word_of", none), "is_word_of", "is_word_of", defArgs s_is_word_of, defBody s_is_word_of, defScope s_is_word_of, [], []⟩
def d_want_told : He.DefD := ⟨("want_told", none), "want_told", "want_told", defArgs s_want_told, defBody s_want_told, defScope s_want_told, [], []⟩
def d_told_from : He.DefD := ⟨("told_from", none), "told_from", "told_from", defArgs s_told_from, defBody s_told_from, defScope s_told_from, [], []⟩
def d_told_of : He.DefD := ⟨("told_of", none), "told_of", "told_of", defArgs s_told_of, defBody s_told_of, defScope s_told_of, [], []⟩
def d_tells : He.DefD := ⟨("tells", none), "tells", "tells", defArgs s_tells, defBody s_tells, defScope s_tells, [], []⟩
def d_course_of : He.DefD := ⟨("course_of", none), "course_of", "course_of", defArgs s_course_of, defBody s_course_of, defScope s_course_of, [], []⟩
def d_course : He.DefD := ⟨("course", none), "course", "course", defArgs s_course, defBody s_course, defScope s_course, [], []⟩
def d__law_told_right : He.DefD := ⟨("_law_told_right", none), "_law_told_right", "_law_told_right", defArgs s__law_told_right, defBody s__law_told_right, defScope s__law_told_right, [], []⟩
def d__law_right : He.DefD := ⟨("_law_right", none), "_law_right", "_law_right", defArgs s__law_right, defBody s__law_right, defScope s__law_right, [], []⟩
def d__law_pot : He.DefD := ⟨("_law_pot", none), "_law_pot", "_law_pot", defArgs s__law_pot, defBody s__law_pot, defScope s__law_pot, [], []⟩
def d_law : He.DefD := ⟨("law", none), "law", "law", defArgs s_law, defBody s_law, defScope s_law, [], []⟩
def fn : List He.DefD := [d__law_draw, d__law_pick, d__law_string, d__law_machine, d__law_bent, d__law_edges, d__law_are_signs, d__law_is_string, d__law_is_move, d__law_flaw, d_is_tuple, d_are_rising, d_are_signs, d_is_text_of, d_are_rows, d_is_integer, d_is_within, d_is_move, d_flaw_of, d_machine_flaw, d_is_machine_any, d_is_machine, d__law_value_right, d_want_machine, d_is_word_of, d_want_told, d_told_from, d_told_of, d_tells, d_course_of, d_course, d__law_told_right, d__law_right, d__law_pot, d_law]
def fa : List He.Fa := [.glo "_law_draw", .glo "_law_pick", .glo "_law_string", .glo "_law_machine", .glo "_law_bent", .glo "_law_edges", .glo "_law_are_signs", .glo "_law_is_string", .glo "_law_is_move", .glo "_law_flaw", .glo "is_tuple", .glo "are_rising", .glo "are_signs", .glo "is_text_of", .glo "are_rows", .glo "is_integer", .glo "is_within", .glo "is_move", .glo "flaw_of", .glo "machine_flaw", .glo "is_machine_any", .glo "is_machine", .glo "_law_value_right", .glo "want_machine", .glo "is_word_of", .glo "want_told", .glo "told_from", .glo "told_of", .glo "tells", .glo "course_of", .glo "course", .glo "_law_told_right", .glo "_law_right", .glo "_law_pot", .glo "law", .free "abs", .free "all", .free "bool", .free "divmod", .free "enumerate", .free "int", .free "isinstance", .free "len", .free "list", .free "max", .free "min", .free "range", .free "repr", .free "set", .free "sorted", .free "str", .free "tuple", .free "zip", .str "LETTERS" "abcdefghijklmnopqrstuvwxyz", .int "MOST_SIGNS" 6, .int "MOST_STATES" 200, .int "MOST_STRING" 1000, .int "MOST_WORD" 60]
abbrev Rr : PySem.W.OpenRow := PySem.W.OpenLaw.row PySem.Challenge.rw_elderwords_k20_any_value_as_machine
abbrev hk : PySem.W.Hook := He.hookD 4 fa fn
def ob (s : PySem.W.SharedT) : He.AlD := He.obsDG 4 fa fn (HandSHeadRun.getT s)
theorem ob_eq (s : PySem.W.SharedT) : ob s = hk.obs s.abs := He.obsDG_eq (HandSHeadRun.getT_eq s)
def loose0 : List PySem.Str := ["__name__", "is_integer", "is_within", "is_tuple", "are_rising", "TongueError", "InvalidMachine", "InvalidTold", "LETTERS", "MOST_SIGNS", "MOST_WORD", "are_signs"]
def loose1 : List PySem.Str := ["is_text_of", "is_word_of", "MOST_STATES", "MOST_STRING", "is_move", "is_machine_any", "want_machine", "told_from", "told_of", "want_told", "course_of", "is_machine"]
def loose2 : List PySem.Str := ["tells", "course", "are_rows", "flaw_of", "machine_flaw", "_law_pot", "_law_draw", "_law_pick", "_law_string", "_law_machine", "_law_is_string", "_law_are_signs"]
def loose3 : List PySem.Str := ["_law_is_move", "_law_flaw", "_law_bent", "_law_edges", "_law_value_right", "_law_told_right", "_law_right"]
abbrev loose : List PySem.Str := loose0 ++ loose1 ++ loose2 ++ loose3
abbrev qv : Program := PySem.W.view Rr.prog [48]
theorem run (w : World) : HandSHeadRun.RunEq Rr qv hk ob 4000 loose w := by
  intro os
  kernel_rfl
theorem facts {P : Program} {w : World} {K : PySem.W.Frag} {h : Heap} {mg : Str → Option Value} {f : Addr} (X : K.In h) (G : h.Ns mainGlobals mg) (hfa : mg ("law" : Str) = some (.ref f)) (c : He.SaysD fa fn K) :
    ∃ fd : FuncData, (∀ (s : Shared) (v : Value), BindsTo s fd ⟨[v], []⟩ [("script", v)]) ∧ ∀ base : Heap, K.In base → base.Ns mainGlobals mg → FnG P w K mg base 13 f fd ["script"] (spP K false 1 F_law) := by
  obtain ⟨e0, D0⟩ := c.def_ 0 (d := d__law_draw) rfl
  obtain ⟨e1, D1⟩ := c.def_ 1 (d := d__law_pick) rfl
  obtain ⟨e2, D2⟩ := c.def_ 2 (d := d__law_string) rfl
  obtain ⟨e3, D3⟩ := c.def_ 3 (d := d__law_machine) rfl
  obtain ⟨e4, D4⟩ := c.def_ 4 (d := d__law_bent) rfl
  obtain ⟨e5, D5⟩ := c.def_ 5 (d := d__law_edges) rfl
  obtain ⟨e6, D6⟩ := c.def_ 6 (d := d__law_are_signs) rfl
  obtain ⟨e7, D7⟩ := c.def_ 7 (d := d__law_is_string) rfl
  obtain ⟨e8, D8⟩ := c.def_ 8 (d := d__law_is_move) rfl
  obtain ⟨e9, D9⟩ := c.def_ 9 (d := d__law_flaw) rfl
  obtain ⟨e10, D10⟩ := c.def_ 10 (d := d_is_tuple) rfl
  obtain ⟨e11, D11⟩ := c.def_ 11 (d := d_are_rising) rfl
  obtain ⟨e12, D12⟩ := c.def_ 12 (d := d_are_signs) rfl
  obtain ⟨e13, D13⟩ := c.def_ 13 (d := d_is_text_of) rfl
  obtain ⟨e14, D14⟩ := c.def_ 14 (d := d_are_rows) rfl
  obtain ⟨e15, D15⟩ := c.def_ 15 (d := d_is_integer) rfl
  obtain ⟨e16, D16⟩ := c.def_ 16 (d := d_is_within) rfl
  obtain ⟨e17, D17⟩ := c.def_ 17 (d := d_is_move) rfl
  obtain ⟨e18, D18⟩ := c.def_ 18 (d := d_flaw_of) rfl
  obtain ⟨e19, D19⟩ := c.def_ 19 (d := d_machine_flaw) rfl
  obtain ⟨e20, D20⟩ := c.def_ 20 (d := d_is_machine_any) rfl
  obtain ⟨e21, D21⟩ := c.def_ 21 (d := d_is_machine) rfl
  obtain ⟨e22, D22⟩ := c.def_ 22 (d := d__law_value_right) rfl
  obtain ⟨e23, D23⟩ := c.def_ 23 (d := d_want_machine) rfl
  obtain ⟨e24, D24⟩ := c.def_ 24 (d := d_is_word_of) rfl
  obtain ⟨e25, D25⟩ := c.def_ 25 (d := d_want_told) rfl
  obtain ⟨e26, D26⟩ := c.def_ 26 (d := d_told_from) rfl
  obtain ⟨e27, D27⟩ := c.def_ 27 (d := d_told_of) rfl
  obtain ⟨e28, D28⟩ := c.def_ 28 (d := d_tells) rfl
  obtain ⟨e29, D29⟩ := c.def_ 29 (d := d_course_of) rfl
  obtain ⟨e30, D30⟩ := c.def_ 30 (d := d_course) rfl
  obtain ⟨e31, D31⟩ := c.def_ 31 (d := d__law_told_right) rfl
  obtain ⟨e32, D32⟩ := c.def_ 32 (d := d__law_right) rfl
  obtain ⟨e33, D33⟩ := c.def_ 33 (d := d__law_pot) rfl
  obtain ⟨e34, D34⟩ := c.def_ 34 (d := d_law) rfl
  obtain ⟨tk_LETTERS, ck_LETTERS⟩ := He.str_ok X G (c.fact 53 (f := .str "LETTERS" "abcdefghijklmnopqrstuvwxyz") rfl)
  obtain ⟨tk_MOST_SIGNS, ck_MOST_SIGNS⟩ := He.int_ok X G (c.fact 54 (f := .int "MOST_SIGNS" 6) rfl)
  obtain ⟨tk_MOST_STATES, ck_MOST_STATES⟩ := He.int_ok X G (c.fact 55 (f := .int "MOST_STATES" 200) rfl)
  obtain ⟨tk_MOST_STRING, ck_MOST_STRING⟩ := He.int_ok X G (c.fact 56 (f := .int "MOST_STRING" 1000) rfl)
  obtain ⟨tk_MOST_WORD, ck_MOST_WORD⟩ := He.int_ok X G (c.fact 57 (f := .int "MOST_WORD" 60) rfl)
  let x : Fx K mg := ⟨_, e0, D0, He.glo_ok X G (c.fact 0 (f := .glo "_law_draw") rfl),
    _, e1, D1, He.glo_ok X G (c.fact 1 (f := .glo "_law_pick") rfl),
    _, e2, D2, He.glo_ok X G (c.fact 2 (f := .glo "_law_string") rfl),
    _, e3, D3, He.glo_ok X G (c.fact 3 (f := .glo "_law_machine") rfl),
    _, e4, D4, He.glo_ok X G (c.fact 4 (f := .glo "_law_bent") rfl),
    _, e5, D5, He.glo_ok X G (c.fact 5 (f := .glo "_law_edges") rfl),
    _, e6, D6, He.glo_ok X G (c.fact 6 (f := .glo "_law_are_signs") rfl),
    _, e7, D7, He.glo_ok X G (c.fact 7 (f := .glo "_law_is_string") rfl),
    _, e8, D8, He.glo_ok X G (c.fact 8 (f := .glo "_law_is_move") rfl),
    _, e9, D9, He.glo_ok X G (c.fact 9 (f := .glo "_law_flaw") rfl),
    _, e10, D10, He.glo_ok X G (c.fact 10 (f := .glo "is_tuple") rfl),
    _, e11, D11, He.glo_ok X G (c.fact 11 (f := .glo "are_rising") rfl),
    _, e12, D12, He.glo_ok X G (c.fact 12 (f := .glo "are_signs") rfl),
    _, e13, D13, He.glo_ok X G (c.fact 13 (f := .glo "is_text_of") rfl),
    _, e14, D14, He.glo_ok X G (c.fact 14 (f := .glo "are_rows") rfl),
    _, e15, D15, He.glo_ok X G (c.fact 15 (f := .glo "is_integer") rfl),
    _, e16, D16, He.glo_ok X G (c.fact 16 (f := .glo "is_within") rfl),
    _, e17, D17, He.glo_ok X G (c.fact 17 (f := .glo "is_move") rfl),
    _, e18, D18, He.glo_ok X G (c.fact 18 (f := .glo "flaw_of") rfl),
    _, e19, D19, He.glo_ok X G (c.fact 19 (f := .glo "machine_flaw") rfl),
    _, e20, D20, He.glo_ok X G (c.fact 20 (f := .glo "is_machine_any") rfl),
    _, e21, D21, He.glo_ok X G (c.fact 21 (f := .glo "is_machine") rfl),
    _, e22, D22, He.glo_ok X G (c.fact 22 (f := .glo "_law_value_right") rfl),
    _, e23, D23, He.glo_ok X G (c.fact 23 (f := .glo "want_machine") rfl),
    _, e24, D24, He.glo_ok X G (c.fact 24 (f := .glo "is_word_of") rfl),
    _, e25, D25, He.glo_ok X G (c.fact 25 (f := .glo "want_told") rfl),
    _, e26, D26, He.glo_ok X G (c.fact 26 (f := .glo "told_from") rfl),
    _, e27, D27, He.glo_ok X G (c.fact 27 (f := .glo "told_of") rfl),
    _, e28, D28, He.glo_ok X G (c.fact 28 (f := .glo "tells") rfl),
    _, e29, D29, He.glo_ok X G (c.fact 29 (f := .glo "course_of") rfl),
    _, e30, D30, He.glo_ok X G (c.fact 30 (f := .glo "course") rfl),
    _, e31, D31, He.glo_ok X G (c.fact 31 (f := .glo "_law_told_right") rfl),
    _, e32, D32, He.glo_ok X G (c.fact 32 (f := .glo "_law_right") rfl),
    _, e33, D33, He.glo_ok X G (c.fact 33 (f := .glo "_law_pot") rfl),
    _, e34, D34, He.glo_ok X G (c.fact 34 (f := .glo "law") rfl),
    He.free_ok X G (c.fact 35 (f := .free "abs") rfl),
    He.free_ok X G (c.fact 36 (f := .free "all") rfl),
    He.free_ok X G (c.fact 37 (f := .free "bool") rfl),
    He.free_ok X G (c.fact 38 (f := .free "divmod") rfl),
    He.free_ok X G (c.fact 39 (f := .free "enumerate") rfl),
    He.free_ok X G (c.fact 40 (f := .free "int") rfl),
    He.free_ok X G (c.fact 41 (f := .free "isinstance") rfl),
    He.free_ok X G (c.fact 42 (f := .free "len") rfl),
    He.free_ok X G (c.fact 43 (f := .free "list") rfl),
    He.free_ok X G (c.fact 44 (f := .free "max") rfl),
    He.free_ok X G (c.fact 45 (f := .free "min") rfl),
    He.free_ok X G (c.fact 46 (f := .free "range") rfl),
    He.free_ok X G (c.fact 47 (f := .free "repr") rfl),
    He.free_ok X G (c.fact 48 (f := .free "set") rfl),
    He.free_ok X G (c.fact 49 (f := .free "sorted") rfl),
    He.free_ok X G (c.fact 50 (f := .free "str") rfl),
    He.free_ok X G (c.fact 51 (f := .free "tuple") rfl),
    He.free_ok X G (c.fact 52 (f := .free "zip") rfl),
    tk_LETTERS, ck_LETTERS,
    tk_MOST_SIGNS, ck_MOST_SIGNS,
    tk_MOST_STATES, ck_MOST_STATES,
    tk_MOST_STRING, ck_MOST_STRING,
    tk_MOST_WORD, ck_MOST_WORD⟩
  have e := hfa.symm.trans x.m_law
  cases e
  have b := FunD.bindsA (ps := ["script"]) x.F_law fun _ _ _ _ _ _ us hl => match us, hl with | [_], _ => rfl
  exact ⟨x.fd_law, fun s v => b s [v] rfl, fun base _ _ => ok_law x⟩
end K20

namespace K20
open Ew PySem L2
local macro_rules
  | `(tactic| trivial) => `(tactic| simp only [↓w_cstS, ↓w_cstT, ↓w_cstI, ↓w_cstB, ↓w_cstN, ↓w_vfK, ↓vfC_fz, ↓vfC_ow, ↓w_mvfK, ↓w_nilA, ↓w_consA, ↓w_consV, ↓w_op2, ↓w_opN, ↓w_asB, ↓w_andT, ↓w_orT, ↓w_notT, ↓w_ifE, ↓w_ofB, ↓w_andV, ↓w_orV, ↓w_notV, ↓w_tupD, ↓w_lstD, ↓w_isiF, ↓w_un1, ↓w_noP, ↓w_atP, ↓w_slF, ↓w_metF, ↓w_callP, ↓w_callK, ↓w_callN, ↓w_mutFK, ↓w_callMK, ↓w_chF, ↓w_skip, ↓w_seq, ↓w_expr, ↓w_ret, ↓w_if, ↓w_putK, ↓w_setK, ↓w_setOK, ↓w_asg, ↓w_nameG, ↓w_tupG, ↓w_consG, ↓w_nilG, ↓w_subGK, ↓w_nilM, ↓w_consMf, ↓w_consMo, ↓w_parS, ↓w_putL0, ↓w_putL, ↓w_itF, ↓w_enF, ↓w_zpF, ↓w_rg1, ↓w_rg2, ↓w_for, ↓w_forL0, ↓w_lcF, ↓w_lcL0, ↓w_yes, ↓w_leF, ↓w_dzF, ↓q_addI, ↓q_subI, ↓q_mulI, ↓q_powI, ↓q_divI, ↓q_modI, ↓q_negI, ↓q_ltI, ↓q_leI, ↓q_gtI, ↓q_geI, ↓q_ltS, ↓q_leI', ↓q_ltI', ↓q_bo, ↓q_io, ↓q_tu, ↓q_on1, ↓q_on2, ↓q_eqSE, ↓q_neSE, ↓q_eqIE, ↓q_neIE, ↓q_addS, ↓q_addT, ↓q_addL, ↓q_ixL, ↓q_ixT, ↓q_ixS, ↓is_at0, ↓is_at1, ↓is_at2, ↓is_at3, ↓is_at4, ↓is_at5, ↓q_lenL, ↓q_lenT, ↓q_lenS, ↓q_int, ↓q_abs, ↓q_max, ↓q_min, ↓q_dm, ↓q_tupL, ↓q_tupT, ↓q_tupS, ↓q_lisL, ↓q_lisT, ↓q_lisS, ↓q_all, ↓q_any, ↓q_items_L, ↓q_items_T, ↓q_items_S, ↓q_seq_L, ↓q_seq_T, ↓q_app, ↓q_in1E, ↓q_ni1E, ↓q_slS, ↓q_slT, ↓q_slL, ↓q_slLL, ↓q_joinL, ↓q_joinS, ↓mpOf_mp, ↓is_some, ↓is_get0, ↓is_getS, ↓setC_0, ↓setC_S, ↓q_keys, pick_10, ↓q_inKE, ↓q_ixK, ↓w_look, ↓val_fz, ↓val_ow, ↓val_mp, ↓redo_ow, ↓redo_mp, ↓q_rvS, ↓q_rvT, ↓q_rvL, ↓w_emD, ↓q_ext, ↓q_isN, ↓q_isntN, ↓w_isi2F, ↓w_lrF1, ↓w_lrF2,
      ok_mul, ok_div, ok_mod, ok_pow, ok_r, ixn_20, ixn_21, q_isTT, q_isTS, q_isSS, q_isST, q_isII, q_okS, q_okLi, enum_map, zip_map, rng_map, Int.cast_ofNat_Int, not_true_eq_false, not_false_eq_true, eq_self, decide_true, decide_false, lit_0, lit_1, lit_2, pOk_un, pOk_fz, pOk_ow, pOk_sl, isOw_ow, isOw_mp, List.getElem?_cons_zero, List.getElem?_cons_succ, List.set_cons_zero, List.set_cons_succ, wipeE, restE, okV, Option.getD_some, List.all_cons, List.all_nil, Bool.and_self, Bool.and_true, Bool.true_and, ↓reduceIte, reduceCtorEq, true_and, and_true, List.length_cons, List.length_nil, Nat.reduceAdd, Nat.reduceLeDiff, Nat.reduceEqDiff, Bool.false_eq_true, List.length_map, Bool.not_true, Bool.not_false, Bool.not_eq_true', decide_eq_true_eq, Bool.not_not, decide_eq_false_iff_not, List.cons_append, List.nil_append])
/-! what is drawn -/
def letters : Tx := ("abcdefghijklmnopqrstuvwxyz" : Str).cps.toList
abbrev Ris (l : Tx) : Prop := l.Pairwise (· < ·)
def SgOk (sg : Tx) : Prop := 1 ≤ sg.length ∧ sg.length ≤ 6 ∧ Ris sg ∧ ∀ c ∈ sg, 97 ≤ c ∧ c ≤ 122
def TxtOk (sg : Tx) (n : Nat) (f : Tx) : Prop := f.length ≤ n ∧ ∀ c ∈ f, c ∈ sg
theorem SgOk.ne (h : SgOk sg) : sg ≠ [] := fun z => by have := h.1; rw [z] at this; cases this
theorem TxtOk.mono {n m : Nat} (h : TxtOk sg n f) (k : n ≤ m) : TxtOk sg m f := ⟨Nat.le_trans h.1 k, h.2⟩
abbrev tMachine : Tx := ("machine" : Str).cps.toList
abbrev Mv := Tx × Nat
def enM (p : Mv) : D := .tuple [S p.1, .int (p.2 : Nat)]
def enR (r : List Mv) : D := .tuple (r.map enM)
structure Mc where
  signs : Tx
  first : Tx
  rows : List (List Mv)
  ends : List Tx
def Mc.enc (m : Mc) : D := .tuple [S tMachine, S m.signs, S m.first, .tuple (m.rows.map enR), .tuple (m.ends.map S)]
def MvOk (sg : Tx) (n : Nat) (p : Mv) : Prop := TxtOk sg 2 p.1 ∧ p.2 < n
structure McOk (m : Mc) : Prop where
  sg : SgOk m.signs
  fst : TxtOk m.signs 2 m.first
  pos : 1 ≤ m.rows.length
  len : m.rows.length ≤ 5
  row : ∀ r ∈ m.rows, r.length = m.signs.length
  mv : ∀ r ∈ m.rows, ∀ p ∈ r, MvOk m.signs m.rows.length p
  el : m.ends.length = m.rows.length
  en : ∀ e ∈ m.ends, TxtOk m.signs 2 e
theorem draw {m : Int} (h0 : 0 < m) (h1 : m < 1073741824) : is (M__law_draw (pl a b) [.int m]) fun r => ∃ (k : Nat) (a' b' : Int), (k : Int) < m ∧ r = (.int k, pl a' b') := by
  have key : ∀ x : Int, ∃ k : Nat, (k : Int) < m ∧ PyData.int (x % m) = .int k := fun x => by
    have e1 := Int.emod_nonneg x (show m ≠ 0 by omega)
    have e2 := Int.emod_lt_of_pos x h0
    exact ⟨(x % m).toNat, by omega, by congr 1; omega⟩
  refine semM_of ?_
  show is (G__law_draw [.mp (.list [.int a, .int b]), .fz _, .un]) _
  unfold G__law_draw
  trivial
  split
  · refine ⟨⟨h0, h1⟩, ?_⟩
    obtain ⟨k, e1, e2⟩ := key a
    exact ⟨k, _, _, e1, by rw [e2]; rfl⟩
  · refine ⟨.inr ⟨by decide, by decide⟩, by decide, ?_⟩
    have e1 := Int.emod_nonneg (b * 40692 + 9413) (show (2147483587 : Int) ≠ 0 by decide)
    have e2 := Int.emod_lt_of_pos (b * 40692 + 9413) (show (0 : Int) < 2147483587 by decide)
    generalize (b * 40692 + 9413) % 2147483587 = c at e1 e2
    refine ⟨.inr ⟨by omega, by omega⟩, by decide, by decide, h0, ?_⟩
    obtain ⟨k, e1, e2⟩ := key (c * c % 2147483549 / 17)
    exact ⟨k, _, _, e1, by rw [e2]; rfl⟩
theorem pick_L {ds : List D} (h0 : ds ≠ []) (h1 : ds.length < 1000000000) : is (M__law_pick (pl a b) [.list ds]) fun r => ∃ x ∈ ds, ∃ (a' b' : Int), r = (x, pl a' b') := by
  refine semM_of ?_
  show is (G__law_pick [.mp _, .fz _]) _
  unfold G__law_pick
  have := List.length_pos_iff.mpr h0
  trivial
  refine is_mono (draw (by omega) (by omega)) ?_
  rintro _ ⟨k, a', b', h, rfl⟩
  trivial
  rw [at_nat, List.getElem?_eq_getElem (by omega), is_some]
  exact ⟨_, List.getElem_mem _, _, _, rfl⟩
theorem pick_S (h0 : l ≠ []) (h1 : l.length < 1000000) : is (M__law_pick (pl a b) [S l]) fun r => ∃ c ∈ l, ∃ (a' b' : Int), r = (S1 c, pl a' b') := by
  refine semM_of ?_
  show is (G__law_pick [.mp _, .fz _]) _
  unfold G__law_pick
  have := List.length_pos_iff.mpr h0
  trivial
  refine ⟨by rw [sz_eq]; omega, ?_⟩
  refine is_mono (draw (by omega) (by omega)) ?_
  rintro _ ⟨k, a', b', h, rfl⟩
  trivial
  rw [at_nat, List.getElem?_eq_getElem (by omega), is_some]
  exact ⟨by rw [sz_eq]; omega, _, List.getElem_mem _, _, _, rfl⟩
theorem string_t {n : Nat} (hn : n ≤ 100) (h0 : sg ≠ []) (h6 : sg.length ≤ 100) : is (M__law_string (pl a b) [S sg, .int (n : Nat)]) fun r => ∃ w : Tx, TxtOk sg n w ∧ ∃ (a' b' : Int), r = (S w, pl a' b') := by
  refine semM_of ?_
  show is (G__law_string [.mp _, .fz _, .fz _, .un]) _
  unfold G__law_string
  trivial
  refine is_mono (draw (by omega) (by omega)) ?_
  rintro _ ⟨k, a1, b1, h, rfl⟩
  trivial
  refine ⟨by omega, by simp; omega, ?_⟩
  rw [Int.toNat_natCast]
  refine lc_inv (en := S1) (fun W => ∃ a b, W = [.mp (pl a b), .fz (S sg), .fz (.int (n : Nat)), .un]) (fun _ c => c ∈ sg) ⟨_, _, rfl⟩ ?_ ?_
  · rintro k - _ ⟨a, b, rfl⟩
    trivial
    refine is_mono (pick_S h0 (by omega)) ?_
    rintro _ ⟨c, hc, a', b', rfl⟩
    trivial
    exact ⟨c, rfl, hc, _, _, rfl⟩
  · rintro w _ hl hp ⟨a, b, rfl⟩
    trivial
    have hl' : w.length = k := by simpa using hl
    refine ⟨by rw [sz_eq]; omega, w, ⟨by omega, fun c m => ?_⟩, _, _, rfl⟩
    obtain ⟨_, _, h⟩ := hp c m
    exact h
theorem sgOk_of (h : (decide (1 ≤ sg.length) && decide (sg.length ≤ 6) && decide (Ris sg) && sg.all fun c => decide (97 ≤ c ∧ c ≤ 122)) = true) : SgOk sg := by
  simp only [Bool.and_eq_true, decide_eq_true_eq, List.all_eq_true] at h
  exact ⟨h.1.1.1, h.1.1.2, h.1.2, h.2⟩
theorem machine_t : is (M__law_machine (pl a b) [.int 5]) fun r => ∃ m : Mc, McOk m ∧ ∃ (a' b' : Int), r = (m.enc, pl a' b') := by
  refine semM_of ?_
  show is (G__law_machine [.mp _, .fz _, .un, .un, .un, .un, .un, .un]) _
  unfold G__law_machine
  rw [w_seq]
  refine is_mono (P := fun x => ∃ (sg : Tx) (n : Nat) (a b : Int), SgOk sg ∧ 1 ≤ n ∧ n ≤ 5 ∧ x = (.nx, [.mp (pl a b), .fz (.int 5), .fz (S sg), .fz (.int (n : Nat)), .un, .un, .un, .un])) ?_ ?_
  · trivial
    refine is_mono (pick_L (by simp) (by simp)) ?_
    rintro _ ⟨x, hx, a1, b1, rfl⟩
    trivial
    refine is_mono (draw (m := 5) (by omega) (by omega)) ?_
    rintro _ ⟨k, a2, b2, h, rfl⟩
    trivial
    have hs : ∃ sg, SgOk sg ∧ x = S sg := by
      simp only [List.mem_cons, List.not_mem_nil, or_false] at hx
      rcases hx with rfl | rfl | rfl | rfl | rfl <;> exact ⟨_, sgOk_of (by decide), rfl⟩
    obtain ⟨sg, h1, rfl⟩ := hs
    exact ⟨sg, k + 1, _, _, h1, by omega, by omega, by rw [show (1 + (k : Int)) = ((k + 1 : Nat) : Int) by omega]⟩
  rintro _ ⟨sg, n, a, b, hg, n1, n5, rfl⟩
  have h6 := hg.2.1
  show is (seqS _ _ _) _
  rw [w_seq]
  refine is_mono (P := fun x => x = (.nx, [.mp (pl a b), .fz (.int 5), .fz (S sg), .fz (.int (n : Nat)), .ow (.list []), .ow (.list []), .un, .un])) (by trivial) ?_
  rintro _ rfl
  show is (seqS _ _ _) _
  rw [w_seq]
  refine is_mono (P := fun x => x.1 = .nx ∧ ∃ (rs : List (List Mv)) (es : List Tx) (a b : Int) (p : Option D), rs.length = n ∧ es.length = n ∧ (∀ r ∈ rs, r.length = sg.length ∧ ∀ p ∈ r, MvOk sg n p) ∧ (∀ e ∈ es, TxtOk sg 2 e) ∧ x.2 = [.mp (pl a b), .fz (.int 5), .fz (S sg), .fz (.int (n : Nat)), .ow (.list (rs.map enR)), .ow (.list (es.map S)), sl p, .un]) ?_ ?_
  · trivial
    refine ⟨by omega, ?_⟩
    rw [Int.toNat_natCast]
    refine for_inv (fun bb aa W => bb.length + aa.length = n ∧ ∃ (rs : List (List Mv)) (es : List Tx) (a b : Int) (p : Option D), rs.length = bb.length ∧ es.length = bb.length ∧ (∀ r ∈ rs, r.length = sg.length ∧ ∀ p ∈ r, MvOk sg n p) ∧ (∀ e ∈ es, TxtOk sg 2 e) ∧ W = [.mp (pl a b), .fz (.int 5), .fz (S sg), .fz (.int (n : Nat)), .ow (.list (rs.map enR)), .ow (.list (es.map S)), sl p, .un]) (b := []) ⟨by simp, [], [], a, b, none, rfl, rfl, by simp, by simp, rfl⟩ ?_ ?_
    · rintro bb x aa _ ⟨hz, rs, es, a, b, p, l1, l2, h1, h2, rfl⟩
      have hb : bb.length < n := by simp only [List.length_cons] at hz; omega
      trivial
      refine ⟨by omega, ?_⟩
      refine lc_inv (en := enM) (fun W => ∃ a b, W = [.mp (pl a b), .fz (.int 5), .fz (S sg), .fz (.int (n : Nat)), .ow (.list (rs.map enR)), .ow (.list (es.map S)), .fz (.int (x : Nat)), .un]) (fun _ p => MvOk sg n p) ⟨_, _, rfl⟩ ?_ ?_
      · rintro c - _ ⟨a, b, rfl⟩
        trivial
        refine is_mono (string_t (n := 2) (by omega) hg.ne (by omega)) ?_
        rintro _ ⟨w, hw, a1, b1, rfl⟩
        trivial
        refine is_mono (draw (by omega) (by omega)) ?_
        rintro _ ⟨k, a2, b2, hk, rfl⟩
        trivial
        exact ⟨(w, k), rfl, ⟨hw, by omega⟩, _, _, rfl⟩
      · rintro ms _ hl hp ⟨a, b, rfl⟩
        trivial
        refine ⟨by rw [sz_eq]; omega, ?_⟩
        refine is_mono (string_t (n := 2) (by omega) hg.ne (by omega)) ?_
        rintro _ ⟨w, hw, a1, b1, rfl⟩
        trivial
        refine ⟨by rw [sz_eq]; omega, .inl True.intro, by simp only [List.length_append, List.length_cons, List.length_nil] at hz ⊢; omega, rs ++ [ms], es ++ [w], a1, b1, some (.int (x : Nat)), by simp [l1], by simp [l2], ?_, ?_, ?_⟩
        · intro r m
          rcases List.mem_append.mp m with m | m
          · exact h1 r m
          · rw [List.mem_singleton.mp m]
            exact ⟨hl, fun p hm => by obtain ⟨_, _, h⟩ := hp p hm; exact h⟩
        · intro e m
          rcases List.mem_append.mp m with m | m
          · exact h2 e m
          · rw [List.mem_singleton.mp m]; exact hw
        · rw [List.map_append, List.map_append]
          exact rfl
    · rintro _ ⟨hz, rs, es, a, b, p, l1, l2, h1, h2, rfl⟩
      refine ⟨rfl, rs, es, a, b, p, ?_, ?_, h1, h2, rfl⟩
      · rw [l1]; simpa using hz
      · rw [l2]; simpa using hz
  rintro ⟨fl, E⟩ ⟨e0, rs, es, a, b, p, l1, l2, h1, h2, e1⟩
  cases e0
  cases e1
  trivial
  refine is_mono (string_t (n := 2) (by omega) hg.ne (by omega)) ?_
  rintro _ ⟨w, hw, a1, b1, rfl⟩
  trivial
  exact ⟨⟨sg, w, rs, es⟩, ⟨hg, hw, by show 1 ≤ rs.length; omega, by show rs.length ≤ 5; omega, fun r m => (h1 r m).1, fun r m => by show ∀ p ∈ r, MvOk sg rs.length p; rw [l1]; exact (h1 r m).2, by show es.length = rs.length; omega, h2⟩, _, _, rfl⟩
end K20

namespace K20
open Ew PySem L2
variable {a b : Int} {sg l f w : Tx}
local macro_rules
  | `(tactic| trivial) => `(tactic| simp only [↓w_cstS, ↓w_cstT, ↓w_cstI, ↓w_cstB, ↓w_cstN, ↓w_vfK, ↓vfC_fz, ↓vfC_ow, ↓w_mvfK, ↓w_nilA, ↓w_consA, ↓w_consV, ↓w_op2, ↓w_opN, ↓w_asB, ↓w_andT, ↓w_orT, ↓w_notT, ↓w_ifE, ↓w_ofB, ↓w_andV, ↓w_orV, ↓w_notV, ↓w_tupD, ↓w_lstD, ↓w_isiF, ↓w_un1, ↓w_noP, ↓w_atP, ↓w_slF, ↓w_metF, ↓w_callP, ↓w_callK, ↓w_callN, ↓w_mutFK, ↓w_callMK, ↓w_chF, ↓w_skip, ↓w_seq, ↓w_expr, ↓w_ret, ↓w_if, ↓w_putK, ↓w_setK, ↓w_setOK, ↓w_asg, ↓w_nameG, ↓w_tupG, ↓w_consG, ↓w_nilG, ↓w_subGK, ↓w_nilM, ↓w_consMf, ↓w_consMo, ↓w_parS, ↓w_putL0, ↓w_putL, ↓w_itF, ↓w_enF, ↓w_zpF, ↓w_rg1, ↓w_rg2, ↓w_for, ↓w_forL0, ↓w_lcF, ↓w_lcL0, ↓w_yes, ↓w_leF, ↓w_dzF, ↓q_addI, ↓q_subI, ↓q_mulI, ↓q_powI, ↓q_divI, ↓q_modI, ↓q_negI, ↓q_ltI, ↓q_leI, ↓q_gtI, ↓q_geI, ↓q_ltS, ↓q_leI', ↓q_ltI', ↓q_bo, ↓q_io, ↓q_tu, ↓q_on1, ↓q_on2, ↓q_eqSE, ↓q_neSE, ↓q_eqIE, ↓q_neIE, ↓q_addS, ↓q_addT, ↓q_addL, ↓q_ixL, ↓q_ixT, ↓q_ixS, ↓is_at0, ↓is_at1, ↓is_at2, ↓is_at3, ↓is_at4, ↓is_at5, ↓q_lenL, ↓q_lenT, ↓q_lenS, ↓q_int, ↓q_abs, ↓q_max, ↓q_min, ↓q_dm, ↓q_tupL, ↓q_tupT, ↓q_tupS, ↓q_lisL, ↓q_lisT, ↓q_lisS, ↓q_all, ↓q_any, ↓q_items_L, ↓q_items_T, ↓q_items_S, ↓q_seq_L, ↓q_seq_T, ↓q_app, ↓q_in1E, ↓q_ni1E, ↓q_slS, ↓q_slT, ↓q_slL, ↓q_slLL, ↓q_joinL, ↓q_joinS, ↓mpOf_mp, ↓is_some, ↓is_get0, ↓is_getS, ↓setC_0, ↓setC_S, ↓q_keys, pick_10, ↓q_inKE, ↓q_ixK, ↓w_look, ↓val_fz, ↓val_ow, ↓val_mp, ↓redo_ow, ↓redo_mp, ↓q_rvS, ↓q_rvT, ↓q_rvL, ↓w_emD, ↓q_ext, ↓q_isN, ↓q_isntN, ↓w_isi2F, ↓w_lrF1, ↓w_lrF2,
      ok_mul, ok_div, ok_mod, ok_pow, ok_r, ixn_20, ixn_21, q_isTT, q_isTS, q_isSS, q_isST, q_isII, q_okS, q_okLi, enum_map, zip_map, rng_map, Int.cast_ofNat_Int, not_true_eq_false, not_false_eq_true, eq_self, decide_true, decide_false, lit_0, lit_1, lit_2, pOk_un, pOk_fz, pOk_ow, pOk_sl, isOw_ow, isOw_mp, List.getElem?_cons_zero, List.getElem?_cons_succ, List.set_cons_zero, List.set_cons_succ, wipeE, restE, okV, Option.getD_some, List.all_cons, List.all_nil, Bool.and_self, Bool.and_true, Bool.true_and, ↓reduceIte, reduceCtorEq, true_and, and_true, List.length_cons, List.length_nil, Nat.reduceAdd, Nat.reduceLeDiff, Nat.reduceEqDiff, Bool.false_eq_true, List.length_map, Bool.not_true, Bool.not_false, Bool.not_eq_true', decide_eq_true_eq, Bool.not_not, decide_eq_false_iff_not, List.cons_append, List.nil_append])
def ris (l : Tx) : Bool := (l.zip (l.drop 1)).all fun p => decide (p.1 < p.2)
def clsB (sg : Tx) : D → Bool
  | .str z => !z.cps.toList.isEmpty && ((z.cps.toList.all fun c => decide (c ∈ sg)) && ris z.cps.toList)
  | _ => false
def txB (sg : Tx) (m : Nat) : D → Bool
  | .str z => decide (z.cps.toList.length ≤ m) && z.cps.toList.all fun c => decide (c ∈ sg)
  | _ => false
def tupB (n : Nat) : D → Bool
  | .tuple ds => decide (ds.length = n)
  | _ => false
theorem clsB_S : clsB sg (S l) = (!l.isEmpty && ((l.all fun c => decide (c ∈ sg)) && ris l)) := rfl
theorem txB_S {m : Nat} : txB sg m (S l) = (decide (l.length ≤ m) && l.all fun c => decide (c ∈ sg)) := rfl
theorem clsB_no {d : D} (h : isA .str d = false) : clsB sg d = false := by cases d <;> first | rfl | cases h
theorem txB_no {d : D} {m : Nat} (h : isA .str d = false) : txB sg m d = false := by cases d <;> first | rfl | cases h
theorem ris_range : ∀ {l : Tx}, ((List.range (l.length - 1)).all fun i => decide (l[i]! < l[i + 1]!)) = ris l
  | [] => rfl
  | [_] => rfl
  | x :: y :: l => by
    have ih := ris_range (l := y :: l)
    unfold ris at ih ⊢
    simp only [List.drop_succ_cons, List.drop_zero, List.zip_cons_cons, List.all_cons] at ih ⊢
    rw [← ih]
    simp only [List.length_cons, Nat.add_sub_cancel]
    rw [List.range_succ_eq_map, List.all_cons, List.all_map]
    rfl
theorem are_rising_d (hl : l.length ≤ 1000000) : F_are_rising [S l] = some (.bool (ris l)) := by
  refine is_eq (semP_of ?_)
  show is (G_are_rising [.fz _, .un, .un]) _
  unfold G_are_rising
  trivial
  rw [cutT_from (by decide)]
  refine ⟨by rw [sz_eq]; omega, by simp; omega, ?_⟩
  refine lc_map (fun p => .bool (decide (p.1 < p.2))) ?_ ?_
  · rintro ⟨x, y⟩ -
    unfold S1
    trivial
    simp [List.cons_lt_cons_iff]
  · trivial
    rfl
theorem is_text_of_d {n k m : Nat} {d : D} (h : Vb n k d) (hn : n ≤ 500000) : F_is_text_of [S sg, d, .int (m : Nat)] = some (.bool (txB sg m d)) := by
  refine is_eq (semP_of ?_)
  show is (G_is_text_of [.fz _, .fz _, .fz _, .un]) _
  unfold G_is_text_of
  rcases isS_or d with ⟨l, rfl⟩ | ⟨e, -⟩
  · have hl := h.unstr.1
    rw [txB_S]
    trivial
    refine ⟨by rw [sz_eq]; omega, ?_⟩
    by_cases z : l.length ≤ m
    · rw [if_pos (by omega), decide_eq_true z]
      refine ⟨by omega, lc_map (fun c => .bool (decide (c ∈ sg))) (fun c _ => by trivial) ?_⟩
      trivial
    · rw [if_neg (by omega), decide_eq_false z]; rfl
  · trivial
    rw [e, txB_no e]
    trivial
theorem tupB_no {d : D} {n : Nat} (h : isA .tup d = false) : tupB n d = false := by cases d <;> first | rfl | cases h
theorem is_tuple_d {d : D} {n : Nat} : F_is_tuple [d, .int (n : Nat)] = some (.bool (tupB n d)) := by
  refine is_eq (semP_of ?_)
  show is (G_is_tuple [.fz _, .fz _]) _
  unfold G_is_tuple
  rcases isT_or d with ⟨l, rfl⟩ | h
  · trivial
    unfold tupB
    congr 2
    exact propext ⟨fun h => by omega, fun h => by omega⟩
  · trivial
    rw [h, tupB_no h]
    trivial
def lenS : D → Nat
  | .str z => z.cps.toList.length
  | _ => 0
def itT : D → List D
  | .tuple ds => ds
  | _ => []
theorem eqS_S {t x : Tx} : eqS t (S x) = decide (x = t) := rfl
def sgB (d : D) : Bool := clsB letters d && decide (lenS d ≤ 6)
theorem sgB_S : sgB (S l) = ((!l.isEmpty && ((l.all fun c => decide (c ∈ letters)) && ris l)) && decide (l.length ≤ 6)) := rfl
theorem sgB_no {d : D} (h : isA .str d = false) : sgB d = false := by unfold sgB; rw [clsB_no h]; rfl
theorem are_signs_d {n k : Nat} {d : D} (h : Vb n k d) (hn : n ≤ 500000) : F_are_signs [d] = some (.bool (sgB d)) := by
  refine is_eq (semP_of ?_)
  show is (G_are_signs [.fz _, .un]) _
  unfold G_are_signs
  rcases isS_or d with ⟨l, rfl⟩ | ⟨e, -⟩
  · have hl := h.unstr.1
    rw [sgB_S]
    trivial
    refine ⟨by rw [sz_eq]; omega, ?_⟩
    by_cases z : l = []
    · subst z
      rfl
    · have hp := List.length_pos_iff.mpr z
      have ze : l.isEmpty = false := by cases l <;> first | rfl | exact absurd rfl z
      rw [if_pos (by omega), ze]
      by_cases h6 : l.length ≤ 6
      · rw [if_neg (by omega), decide_eq_true h6]
        refine ⟨by omega, lc_map (fun c => .bool (decide (c ∈ letters))) (fun c _ => by unfold letters; trivial) ?_⟩
        trivial
        cases hc : l.all fun c => decide (c ∈ letters) with
        | false => rw [if_neg (by simp)]; rfl
        | true =>
          rw [if_pos rfl, are_rising_d (by omega)]
          trivial
      · rw [if_pos (by omega), decide_eq_false h6]
        simp
  · trivial
    rw [e, sgB_no e]
    trivial
def txt : D → Tx
  | .str z => z.cps.toList
  | _ => []
theorem txt_S {d : D} (h : isA .str d = true) : d = S (txt d) := by
  cases d with
  | str z => exact str_S z
  | _ => cases h
theorem enum_1 {ds : List D} : enumL 0 ds = ds.zipIdx.map fun p => .tuple [.int (p.2 : Nat), p.1] := by
  have := enum_map (f := id) (l := ds) (n := 0)
  rwa [List.map_id] at this
abbrev A8 (t : Tx) : Prop := ∀ c ∈ t, c < 128
theorem sg_V (h : SgOk sg) : A8 sg := fun c m => by have := h.2.2.2 c m; omega
theorem ris_of : ∀ {l : Tx}, Ris l → ris l = true
  | [], _ => rfl
  | [_], _ => rfl
  | x :: y :: l, h => by
    have h1 := List.pairwise_cons.mp h
    have ih := ris_of h1.2
    unfold ris at ih ⊢
    simp only [List.drop_succ_cons, List.drop_zero, List.zip_cons_cons, List.all_cons, Bool.and_eq_true, decide_eq_true_eq]
    exact ⟨h1.1 y (List.mem_cons_self ..), ih⟩
theorem letters_mem {c : Nat} (h1 : 97 ≤ c) (h2 : c ≤ 122) : c ∈ letters := by
  have e : letters = List.range' 97 26 := by decide +kernel
  rw [e, List.mem_range'_1]
  omega
theorem ris_iff : ∀ {l : Tx}, ris l = true ↔ Ris l
  | [] => by simp [ris, Ris]
  | [x] => by simp [ris, Ris]
  | x :: y :: l => by
    have ih := ris_iff (l := y :: l)
    have e : ris (x :: y :: l) = (decide (x < y) && ris (y :: l)) := by
      unfold ris
      simp only [List.drop_succ_cons, List.drop_zero, List.zip_cons_cons, List.all_cons]
    rw [e, Bool.and_eq_true, decide_eq_true_eq, ih]
    constructor
    · rintro ⟨h1, h2⟩
      refine List.pairwise_cons.mpr ⟨fun z m => ?_, h2⟩
      rcases List.mem_cons.mp m with rfl | m
      · exact h1
      · exact Nat.lt_trans h1 ((List.pairwise_cons.mp h2).1 z m)
    · intro h
      exact ⟨(List.pairwise_cons.mp h).1 y (List.mem_cons_self ..), (List.pairwise_cons.mp h).2⟩
theorem sg_of {l : Tx} (h : sgB (S l) = true) : SgOk l := by
  rw [sgB_S] at h
  simp only [Bool.and_eq_true, Bool.not_eq_true', List.all_eq_true, decide_eq_true_eq] at h
  obtain ⟨⟨h1, h2, h3⟩, h4⟩ := h
  have hne : l ≠ [] := fun z => by rw [z] at h1; cases h1
  refine ⟨List.length_pos_iff.mpr hne, h4, ris_iff.mp h3, fun c m => ?_⟩
  have hc := h2 c m
  have e : letters = List.range' 97 26 := by decide +kernel
  rw [e, List.mem_range'_1] at hc
  omega
theorem insT_mem (c : Nat) : ∀ (cs : List Nat) (ks : List Str), sg1 c ∈ insT ks cs ↔ sg1 c ∈ ks ∨ c ∈ cs
  | [], ks => by simp [insT]
  | d :: cs, ks => by
    show sg1 c ∈ insT (if sg1 d ∈ ks then ks else sg1 d :: ks) cs ↔ _
    have hi : sg1 c = sg1 d ↔ c = d := ⟨fun e => by
      have := congrArg (fun s : Str => s.cps.toList) e
      simpa [sg1] using this, fun e => by rw [e]⟩
    rw [insT_mem c cs]
    split
    · rename_i hd
      constructor
      · rintro (h | h)
        · exact .inl h
        · exact .inr (List.mem_cons_of_mem _ h)
      · rintro (h | h)
        · exact .inl h
        · rcases List.mem_cons.mp h with e | h
          · exact .inl (by rw [e]; exact hd)
          · exact .inr h
    · rw [List.mem_cons, hi, List.mem_cons]
      constructor
      · rintro ((h | h) | h)
        · exact .inr (.inl h)
        · exact .inl h
        · exact .inr (.inr h)
      · rintro (h | h | h)
        · exact .inl (.inr h)
        · exact .inl (.inl h)
        · exact .inr h
theorem insT_nodup : ∀ (cs : List Nat) (ks : List Str), ks.Nodup → (insT ks cs).Nodup
  | [], ks, h => h
  | d :: cs, ks, h => by
    show (insT (if sg1 d ∈ ks then ks else sg1 d :: ks) cs).Nodup
    split
    · exact insT_nodup cs ks h
    · rename_i hd
      exact insT_nodup cs _ (List.nodup_cons.mpr ⟨hd, h⟩)
theorem insT_form : ∀ (cs : List Nat) (ks : List Nat), ∃ ds : List Nat, insT (ks.map sg1) cs = ds.map sg1
  | [], ks => ⟨ks, rfl⟩
  | d :: cs, ks => by
    show ∃ ds : List Nat, insT (if sg1 d ∈ ks.map sg1 then ks.map sg1 else sg1 d :: ks.map sg1) cs = ds.map sg1
    split
    · exact insT_form cs ks
    · exact insT_form cs (d :: ks)
theorem le_sg1 {c d : Nat} : leS (sg1 c) (sg1 d) = decide (c ≤ d) := by
  unfold leS sg1
  rw [Bool.eq_iff_iff, decide_eq_true_eq, decide_eq_true_eq]
  show [c] ≤ [d] ↔ _
  rw [← List.not_lt, List.cons_lt_cons_iff]
  simp
theorem sst_iff {l : Tx} : (sstL (mkS l) = l.map sg1) ↔ Ris l := by
  obtain ⟨ds, e⟩ := insT_form l []
  have e' : insT [] (mkS l).cps.toList = ds.map sg1 := e
  have hn : (ds.map sg1).Nodup := by rw [← e']; exact insT_nodup l [] List.nodup_nil
  have inj : ∀ {c d : Nat}, sg1 c = sg1 d → c = d := fun {c d} e => by
    have := congrArg (fun s : Str => s.cps.toList) e
    simpa [sg1] using this
  have mapinj : ∀ {a b : List Nat}, a.map sg1 = b.map sg1 → a = b := fun {a b} h => List.map_inj_right (fun x y => inj) |>.mp h
  have hmem : ∀ c, c ∈ ds ↔ c ∈ l := fun c => by
    have := insT_mem c l []
    rw [show insT [] l = ds.map sg1 from e] at this
    rw [← (show sg1 c ∈ ds.map sg1 ↔ c ∈ ds from ⟨fun m => by obtain ⟨d, hd, e⟩ := List.mem_map.mp m; rw [← inj e]; exact hd, fun m => List.mem_map.mpr ⟨c, m, rfl⟩⟩), this]
    simp
  unfold sstL
  rw [e']
  have pm : (srtS (ds.map sg1)).Perm (ds.map sg1) := List.mergeSort_perm _ _
  constructor
  · intro h
    rw [h] at pm
    have nd : (l.map sg1).Nodup := pm.nodup_iff.mpr hn
    have pw : (srtS (ds.map sg1)).Pairwise (fun a b => leS a b = true) := List.pairwise_mergeSort (le := leS) (fun _ _ _ => leS_trans) leS_tot _
    rw [h, List.pairwise_map] at pw
    have nl : l.Pairwise (· ≠ ·) := (List.pairwise_map.mp nd).imp fun h e => h (by rw [e])
    exact (pw.and nl).imp fun {a b} ⟨h1, h2⟩ => by
      rw [le_sg1, decide_eq_true_eq] at h1
      omega
  · intro hr
    have pl : ds.Perm l := by
      refine (List.perm_ext_iff_of_nodup ?_ ?_).mpr hmem
      · exact (List.pairwise_map.mp hn).imp fun h e => h (by rw [e])
      · exact hr.imp fun h => Nat.ne_of_lt h
    refine (List.Perm.eq_of_pairwise (le := fun a b => leS a b = true) (fun a b _ _ h1 h2 => ?_) (List.pairwise_mergeSort (le := leS) (fun _ _ _ => leS_trans) leS_tot _) ?_ (pm.trans (pl.map sg1)))
    · have := List.le_antisymm (of_decide_eq_true h1) (of_decide_eq_true h2)
      cases a; cases b
      simp only [Str.mk.injEq]
      exact Array.toList_inj.mp this
    · rw [List.pairwise_map]
      exact hr.imp fun {a b} h => by rw [le_sg1, decide_eq_true_eq]; omega
theorem eqvAll_S : ∀ {a : List Tx} {b : List Str}, PyData.eqvAll (a.map S) (b.map PyData.str) = decide (a.map mkS = b)
  | [], [] => rfl
  | [], _ :: _ => by simp [PyData.eqvAll]
  | _ :: _, [] => by simp [PyData.eqvAll]
  | x :: a, y :: b => by
    rw [List.map_cons, List.map_cons, PyData.eqvAll, eqvAll_S, List.map_cons]
    have e : PyData.eqv (S x) (.str y) = decide (mkS x = y) := by
      show ((mkS x) == y) = _
      rw [Bool.eq_iff_iff, beq_iff_eq, decide_eq_true_eq]
    rw [e, Bool.eq_iff_iff]
    simp
theorem plains_str : ∀ {l : List Str}, PyData.plainAll (l.map PyData.str) = true
  | [] => rfl
  | x :: l => by rw [List.map_cons, PyData.plainAll, plains_str]; rfl
theorem w_sstv {i : Nat} {env : En} {Q : D × En → Prop} (e : env[i]? = some (.fz (S l))) (hl : l.length < 60) : is (sstF (vf i) env) Q ↔ Q (.list ((sstL (mkS l)).map .str), env) := by
  have h : vf i env = some (S l, env) := by
    have := (w_vf (i := i) (env := env) (Q := fun r => r = (S l, env))).mpr ⟨_, e, rfl⟩
    obtain ⟨a, h1, h2⟩ := this
    rw [h1, h2]
  have e2 : sstF (vf i) env = some (.list ((sstL (mkS l)).map .str), env) := by
    unfold sstF
    rw [h]
    show (if (mkS l).cps.size < 60 then some (PyData.list ((sstL (mkS l)).map .str), env) else none) = _
    rw [if_pos (by simpa [mkS] using hl)]
  rw [e2, is_some]
def intB (lo hi : Int) : D → Bool
  | .int i => decide (lo ≤ i) && decide (i ≤ hi)
  | _ => false
theorem int_or (d : D) : (∃ i, d = .int i) ∨ (∃ p, d = .bool p) ∨ isA .int d = false := by
  cases d with
  | int i => exact .inl ⟨_, rfl⟩
  | bool p => exact .inr (.inl ⟨_, rfl⟩)
  | _ => exact .inr (.inr rfl)
theorem intB_no {lo hi : Int} {d : D} (h : isA .int d = false) : intB lo hi d = false := by cases d <;> first | rfl | cases h
theorem intB_I {lo hi i : Int} : intB lo hi (.int i) = (decide (lo ≤ i) && decide (i ≤ hi)) := rfl
theorem is_within_d {lo hi : Int} {d : D} : F_is_within [d, .int lo, .int hi] = some (.bool (intB lo hi d)) := by
  have e : F_is_integer [d] = some (.bool (isA .int d && !isA .bl d)) := by
    refine is_eq (semP_of ?_)
    show is (G_is_integer [.fz _]) _
    unfold G_is_integer
    trivial
    cases isA .int d <;> cases isA .bl d <;> rfl
  refine is_eq (semP_of ?_)
  show is (G_is_within [.fz _, .fz _, .fz _]) _
  unfold G_is_within
  trivial
  rw [e]
  rcases int_or d with ⟨i, rfl⟩ | ⟨p, rfl⟩ | h
  · trivial
    rw [show (isA Ty.bl (PyData.int i)) = false from rfl, intB_I]
    trivial
    by_cases c : lo ≤ i
    · rw [if_pos c, decide_eq_true c]; rfl
    · rw [if_neg c, decide_eq_false c]; rfl
  · rw [show (isA Ty.int (PyData.bool p) && !isA Ty.bl (PyData.bool p)) = false from rfl]
    trivial
    rfl
  · rw [h, intB_no h, Bool.false_and]
    trivial
theorem q_leS {x y : Tx} {Q : D → Prop} : is (leD (S x) (S y)) Q ↔ Q (.bool (!decide (y < x))) := is_iff rfl
theorem lt1 {c d : Nat} : decide ([c] < [d]) = decide (c < d) := by
  rw [decide_eq_decide, List.cons_lt_cons_iff]
  simp
theorem lettersB {c : Nat} : decide (c ∈ letters) = (decide (97 ≤ c) && decide (c ≤ 122)) := by
  have e : letters = List.range' 97 26 := by decide +kernel
  rw [Bool.eq_iff_iff, decide_eq_true_eq, Bool.and_eq_true, decide_eq_true_eq, decide_eq_true_eq, e, List.mem_range'_1]
  omega
theorem law_are_signs_d {n k : Nat} {d : D} (h : Vb n k d) (hn : n ≤ 500000) : F__law_are_signs [d] = some (.bool (sgB d)) := by
  refine is_eq (semP_of ?_)
  show is (G__law_are_signs [.fz _, .un]) _
  unfold G__law_are_signs
  rcases isS_or d with ⟨l, rfl⟩ | ⟨e, _⟩
  rotate_left
  · trivial
    rw [e, if_pos rfl, sgB_no e]
  have hl := h.unstr.1
  rw [w_seq, sgB_S]
  trivial
  by_cases z : l = []
  · subst z
    rw [if_pos (by rfl)]
    rfl
  have ze : l.isEmpty = false := by cases l <;> first | rfl | exact absurd rfl z
  rw [if_neg z, ze]
  refine ⟨by rw [sz_eq]; omega, ?_⟩
  by_cases h6 : l.length ≤ 6
  rotate_left
  · rw [if_pos (by omega), decide_eq_false h6, Bool.and_false]
  rw [if_neg (by omega), decide_eq_true h6, Bool.and_true, Bool.not_false, Bool.true_and]
  refine ⟨by omega, ?_⟩
  refine lc_map (fun c => .bool (decide (c ∈ letters))) ?_ ?_
  · rintro c -
    unfold S1
    trivial
    rw [q_leS, show ("a" : Str).cps.toList = [97] from by decide +kernel, lt1, lettersB]
    trivial
    by_cases c1 : 97 ≤ c
    · rw [decide_eq_true c1, if_pos (by omega)]
      rw [q_leS, show ("z" : Str).cps.toList = [122] from by decide +kernel, lt1, Bool.true_and]
      trivial
      by_cases c2 : c ≤ 122
      · rw [decide_eq_true c2, decide_eq_false (by omega)]; rfl
      · rw [decide_eq_false c2, decide_eq_true (by omega)]; rfl
    · rw [decide_eq_false c1, if_neg (by omega)]
      rfl
  · trivial
    cases hc : (l.all fun c => decide (c ∈ letters)) with
    | false => rw [if_pos rfl, Bool.false_and]
    | true =>
      rw [if_neg (by simp), Bool.true_and]
      refine ⟨by rw [sz_eq]; omega, ?_⟩
      rw [w_sstv rfl (by omega), q_eqLL plains_1 plains_str (by rw [PyData.depth, depths_1]; decide)]
      have e : PyData.eqv (.list (l.map S1)) (.list ((sstL (mkS l)).map PyData.str)) = ris l := by
        show PyData.eqvAll (l.map S1) _ = _
        rw [S1_map, eqvAll_S, Bool.eq_iff_iff, decide_eq_true_eq, ris_iff, ← sst_iff]
        rw [List.map_map, show (mkS ∘ fun c => [c]) = sg1 from rfl]
        exact ⟨fun h => h.symm, fun h => h.symm⟩
      rw [e]
theorem law_is_string_d {n k : Nat} {d : D} (h : Vb n k d) (hn : n ≤ 500000) : F__law_is_string [S sg, d] = some (.bool (txB sg 1000 d)) := by
  refine is_eq (semP_of ?_)
  show is (G__law_is_string [.fz _, .fz _, .un]) _
  unfold G__law_is_string
  rcases isS_or d with ⟨l, rfl⟩ | ⟨e, -⟩
  · have hl := h.unstr.1
    rw [txB_S]
    trivial
    refine ⟨by rw [sz_eq]; omega, ?_⟩
    by_cases z : l.length ≤ 1000
    · rw [if_pos (by omega), decide_eq_true z]
      refine ⟨by omega, lc_filter (fun c => !decide (c ∈ sg)) S1 (fun c _ => by trivial; exact ⟨fun _ => True.intro, fun _ => True.intro⟩) ?_⟩
      trivial
      rw [q_eqLL plains_1 rfl (by rw [PyData.depth, depths_1]; decide), eqv_l0]
      congr 2
      rw [Bool.eq_iff_iff, List.isEmpty_iff, List.map_eq_nil_iff, List.filter_eq_nil_iff, List.all_eq_true]
      exact ⟨fun h c m => by have := h c m; simpa using this, fun h c m => by have := h c m; simpa using this⟩
    · rw [if_neg (by omega), decide_eq_false z]; rfl
  · trivial
    rw [e, txB_no e]
    trivial
theorem tup2 {d : D} (h : tupB 2 d = true) : ∃ x0 x1, d = .tuple [x0, x1] := by
  cases d with
  | tuple ds =>
    have h' : ds.length = 2 := of_decide_eq_true h
    match ds, h' with
    | [x0, x1], _ => exact ⟨_, _, rfl⟩
  | _ => cases h
theorem tup5 {d : D} (h : tupB 5 d = true) : ∃ x0 x1 x2 x3 x4, d = .tuple [x0, x1, x2, x3, x4] := by
  cases d with
  | tuple ds =>
    have h' : ds.length = 5 := of_decide_eq_true h
    match ds, h' with
    | [x0, x1, x2, x3, x4], _ => exact ⟨_, _, _, _, _, rfl⟩
  | _ => cases h
theorem vs2 {n k : Nat} {x0 x1 : D} (h : Vb n k (.tuple [x0, x1])) : Vb n k x0 ∧ Vb n k x1 := by
  have m := h.untup.2.mem
  exact ⟨(m _ (by simp)).mono (Nat.le_refl _) (by omega), (m _ (by simp)).mono (Nat.le_refl _) (by omega)⟩
theorem vs5 {n k : Nat} {x0 x1 x2 x3 x4 : D} (h : Vb n k (.tuple [x0, x1, x2, x3, x4])) : Vb n k x0 ∧ Vb n k x1 ∧ Vb n k x2 ∧ Vb n k x3 ∧ Vb n k x4 := by
  have m := h.untup.2.mem
  exact ⟨(m _ (by simp)).mono (Nat.le_refl _) (by omega), (m _ (by simp)).mono (Nat.le_refl _) (by omega), (m _ (by simp)).mono (Nat.le_refl _) (by omega), (m _ (by simp)).mono (Nat.le_refl _) (by omega), (m _ (by simp)).mono (Nat.le_refl _) (by omega)⟩
def mvB (sg : Tx) (n : Nat) : D → Bool
  | .tuple [x, y] => txB sg 1000 x && intB 0 ((n : Int) - 1) y
  | _ => false
theorem mvB_2 {n : Nat} {x y : D} : mvB sg n (.tuple [x, y]) = (txB sg 1000 x && intB 0 ((n : Int) - 1) y) := rfl
theorem mvB_no {n : Nat} {d : D} (h : tupB 2 d = false) : mvB sg n d = false := by
  unfold mvB
  split
  · exact absurd h (by simp [tupB])
  · rfl
theorem is_move_d {n k m : Nat} {d : D} (h : Vb n k d) (hn : n ≤ 500000) : F_is_move [S sg, .int (m : Nat), d] = some (.bool (mvB sg m d)) := by
  refine is_eq (semP_of ?_)
  show is (G_is_move [.fz _, .fz _, .fz _]) _
  unfold G_is_move
  trivial
  rw [show F_is_tuple [d, .int 2] = some (.bool (tupB 2 d)) from is_tuple_d]
  trivial
  cases ht : tupB 2 d with
  | false => rw [if_neg (by simp), mvB_no ht]
  | true =>
    obtain ⟨x, y, rfl⟩ := tup2 ht
    obtain ⟨h0, h1⟩ := vs2 h
    rw [if_pos rfl, mvB_2]
    trivial
    rw [show F_is_text_of [S sg, x, .int 1000] = some (.bool (txB sg 1000 x)) from is_text_of_d (m := 1000) h0 hn]
    trivial
    cases hx : txB sg 1000 x with
    | false => rw [if_neg (by simp), Bool.false_and]
    | true =>
      rw [if_pos rfl, Bool.true_and, is_within_d]
      trivial
theorem law_is_move_d {n k m : Nat} {d : D} (h : Vb n k d) (hn : n ≤ 500000) : F__law_is_move [S sg, .int (m : Nat), d] = some (.bool (mvB sg m d)) := by
  refine is_eq (semP_of ?_)
  show is (G__law_is_move [.fz _, .fz _, .fz _]) _
  unfold G__law_is_move
  rcases isT_or d with ⟨ds, rfl⟩ | e
  rotate_left
  · trivial
    rw [e, if_pos rfl, mvB_no (tupB_no e)]
  trivial
  cases ht : tupB 2 (.tuple ds) with
  | false =>
    have hl : ¬ ds.length = 2 := of_decide_eq_false ht
    rw [if_pos (by omega), mvB_no ht]
  | true =>
    have hl : ds.length = 2 := of_decide_eq_true ht
    obtain ⟨x, y, e⟩ := tup2 ht
    cases e
    obtain ⟨h0, h1⟩ := vs2 h
    rw [if_neg (fun z => z rfl), mvB_2]
    trivial
    rw [law_is_string_d h0 hn]
    trivial
    cases hx : txB sg 1000 x with
    | false => rw [if_pos rfl, Bool.false_and]
    | true =>
      rw [if_neg (by simp), Bool.true_and]
      rcases int_or y with ⟨i, rfl⟩ | ⟨p, rfl⟩ | h
      · trivial
        rw [show (isA Ty.bl (PyData.int i)) = false from rfl, intB_I]
        trivial
        by_cases c : 0 ≤ i
        · rw [if_pos c, decide_eq_true c]
          trivial
          congr 2
          exact propext ⟨fun h => by omega, fun h => by omega⟩
        · rw [if_neg c, decide_eq_false c]; rfl
      · trivial
      · rw [h, intB_no h]
        trivial
end K20

namespace K20
open Ew PySem L2
variable {a b : Int} {sg l f w : Tx}
local macro_rules
  | `(tactic| trivial) => `(tactic| simp only [↓w_cstS, ↓w_cstT, ↓w_cstI, ↓w_cstB, ↓w_cstN, ↓w_vfK, ↓vfC_fz, ↓vfC_ow, ↓w_mvfK, ↓w_nilA, ↓w_consA, ↓w_consV, ↓w_op2, ↓w_opN, ↓w_asB, ↓w_andT, ↓w_orT, ↓w_notT, ↓w_ifE, ↓w_ofB, ↓w_andV, ↓w_orV, ↓w_notV, ↓w_tupD, ↓w_lstD, ↓w_isiF, ↓w_un1, ↓w_noP, ↓w_atP, ↓w_slF, ↓w_metF, ↓w_callP, ↓w_callK, ↓w_callN, ↓w_mutFK, ↓w_callMK, ↓w_chF, ↓w_skip, ↓w_seq, ↓w_expr, ↓w_ret, ↓w_if, ↓w_putK, ↓w_setK, ↓w_setOK, ↓w_asg, ↓w_nameG, ↓w_tupG, ↓w_consG, ↓w_nilG, ↓w_subGK, ↓w_nilM, ↓w_consMf, ↓w_consMo, ↓w_parS, ↓w_putL0, ↓w_putL, ↓w_itF, ↓w_enF, ↓w_zpF, ↓w_rg1, ↓w_rg2, ↓w_for, ↓w_forL0, ↓w_lcF, ↓w_lcL0, ↓w_yes, ↓w_leF, ↓w_dzF, ↓q_addI, ↓q_subI, ↓q_mulI, ↓q_powI, ↓q_divI, ↓q_modI, ↓q_negI, ↓q_ltI, ↓q_leI, ↓q_gtI, ↓q_geI, ↓q_ltS, ↓q_leI', ↓q_ltI', ↓q_bo, ↓q_io, ↓q_tu, ↓q_on1, ↓q_on2, ↓q_eqSE, ↓q_neSE, ↓q_eqIE, ↓q_neIE, ↓q_addS, ↓q_addT, ↓q_addL, ↓q_ixL, ↓q_ixT, ↓q_ixS, ↓is_at0, ↓is_at1, ↓is_at2, ↓is_at3, ↓is_at4, ↓is_at5, ↓q_lenL, ↓q_lenT, ↓q_lenS, ↓q_int, ↓q_abs, ↓q_max, ↓q_min, ↓q_dm, ↓q_tupL, ↓q_tupT, ↓q_tupS, ↓q_lisL, ↓q_lisT, ↓q_lisS, ↓q_all, ↓q_any, ↓q_items_L, ↓q_items_T, ↓q_items_S, ↓q_seq_L, ↓q_seq_T, ↓q_app, ↓q_in1E, ↓q_ni1E, ↓q_slS, ↓q_slT, ↓q_slL, ↓q_slLL, ↓q_joinL, ↓q_joinS, ↓mpOf_mp, ↓is_some, ↓is_get0, ↓is_getS, ↓setC_0, ↓setC_S, ↓q_keys, pick_10, ↓q_inKE, ↓q_ixK, ↓w_look, ↓val_fz, ↓val_ow, ↓val_mp, ↓redo_ow, ↓redo_mp, ↓q_rvS, ↓q_rvT, ↓q_rvL, ↓w_emD, ↓q_ext, ↓q_isN, ↓q_isntN, ↓w_isi2F, ↓w_lrF1, ↓w_lrF2,
      ok_mul, ok_div, ok_mod, ok_pow, ok_r, ixn_20, ixn_21, q_isTT, q_isTS, q_isSS, q_isST, q_isII, q_okS, q_okLi, enum_map, zip_map, rng_map, Int.cast_ofNat_Int, not_true_eq_false, not_false_eq_true, eq_self, decide_true, decide_false, lit_0, lit_1, lit_2, pOk_un, pOk_fz, pOk_ow, pOk_sl, isOw_ow, isOw_mp, List.getElem?_cons_zero, List.getElem?_cons_succ, List.set_cons_zero, List.set_cons_succ, wipeE, restE, okV, Option.getD_some, List.all_cons, List.all_nil, Bool.and_self, Bool.and_true, Bool.true_and, ↓reduceIte, reduceCtorEq, true_and, and_true, List.length_cons, List.length_nil, Nat.reduceAdd, Nat.reduceLeDiff, Nat.reduceEqDiff, Bool.false_eq_true, List.length_map, Bool.not_true, Bool.not_false, Bool.not_eq_true', decide_eq_true_eq, Bool.not_not, decide_eq_false_iff_not, List.cons_append, List.nil_append])
/-! the flaw of any value -/
abbrev tForm : Tx := ("form" : Str).cps.toList
abbrev tSigns : Tx := ("signs" : Str).cps.toList
abbrev tFirst : Tx := ("first" : Str).cps.toList
abbrev tMoves : Tx := ("moves" : Str).cps.toList
abbrev tMove : Tx := ("move" : Str).cps.toList
abbrev tEnds : Tx := ("ends" : Str).cps.toList
def rwB (k : Nat) : D → Bool
  | .tuple rs => (decide (1 ≤ rs.length) && decide (rs.length ≤ 200)) && rs.all (tupB k)
  | _ => false
theorem rwB_T {k : Nat} {rs : List D} : rwB k (.tuple rs) = ((decide (1 ≤ rs.length) && decide (rs.length ≤ 200)) && rs.all (tupB k)) := rfl
theorem rwB_no {k : Nat} {d : D} (h : isA .tup d = false) : rwB k d = false := by cases d <;> first | rfl | cases h
def wrong (i j : Nat) : D := .tuple [S tMove, .int (i : Nat), .int (j : Nat)]
def badR (sg : Tx) (n i : Nat) (r : List D) : Option D := r.zipIdx.findSome? fun p => if mvB sg n p.1 = true then none else some (wrong i p.2)
def badM (sg : Tx) (n : Nat) (rs : List D) : Option D := rs.zipIdx.findSome? fun p => badR sg n p.2 (itT p.1)
def endB (sg : Tx) (n : Nat) : D → Bool
  | .tuple es => decide (es.length = n) && es.all (txB sg 1000)
  | _ => false
theorem endB_T {n : Nat} {es : List D} : endB sg n (.tuple es) = (decide (es.length = n) && es.all (txB sg 1000)) := rfl
theorem endB_no {n : Nat} {d : D} (h : isA .tup d = false) : endB sg n d = false := by cases d <;> first | rfl | cases h
def flawE (sg : Tx) (x3 x4 : D) : D := if endB sg (itT x3).length x4 = true then .none else .tuple [S tEnds]
def flaw5 (x0 x1 x2 x3 x4 : D) : D :=
  if eqS tMachine x0 = true then
    if sgB x1 = true then
      if txB (txt x1) 1000 x2 = true then
        if rwB (txt x1).length x3 = true then (badM (txt x1) (itT x3).length (itT x3)).getD (flawE (txt x1) x3 x4)
        else .tuple [S tMoves]
      else .tuple [S tFirst]
    else .tuple [S tSigns]
  else .tuple [S tForm]
def flaw : D → D
  | .tuple [x0, x1, x2, x3, x4] => flaw5 x0 x1 x2 x3 x4
  | _ => .tuple [S tForm]
theorem flaw_5 {x0 x1 x2 x3 x4 : D} : flaw (.tuple [x0, x1, x2, x3, x4]) = flaw5 x0 x1 x2 x3 x4 := rfl
theorem flaw_no {d : D} (h : tupB 5 d = false) : flaw d = .tuple [S tForm] := by
  unfold flaw
  split
  · exact absurd h (by simp [tupB])
  · rfl
theorem sgB_str {d : D} (h : sgB d = true) : d = S (txt d) := by
  rcases isS_or d with ⟨l, rfl⟩ | ⟨e, -⟩
  · rfl
  · rw [sgB_no e] at h; cases h
theorem rwB_tup {k : Nat} {d : D} (h : rwB k d = true) : d = .tuple (itT d) := by cases d <;> first | rfl | cases h
theorem are_rows_d {n k : Nat} {d : D} (hs : sg.length ≤ 100) (h : Vb n k d) (hn : n ≤ 500000) : F_are_rows [S sg, d] = some (.bool (rwB sg.length d)) := by
  refine is_eq (semP_of ?_)
  show is (G_are_rows [.fz _, .fz _, .un]) _
  unfold G_are_rows
  rcases isT_or d with ⟨rs, rfl⟩ | e
  rotate_left
  · trivial
    rw [e, if_pos rfl, rwB_no e]
  have hl := h.untup.2.le
  rw [w_seq, rwB_T]
  try trivial
  by_cases c1 : 1 ≤ rs.length
  rotate_left
  · rw [if_neg (by omega), decide_eq_false c1, Bool.false_and, Bool.false_and]
  by_cases c2 : rs.length ≤ 200
  rotate_left
  · rw [if_pos (by omega), if_pos (by omega), decide_eq_false c2, Bool.and_false, Bool.false_and]
  rw [if_pos (by omega), if_neg (by omega), decide_eq_true c1, decide_eq_true c2, Bool.and_self, Bool.true_and]
  refine ⟨by omega, ?_⟩
  refine lc_map1 (fun x => .bool (tupB sg.length x)) (fun x m => ?_) ?_
  · trivial
    refine ⟨by rw [sz_eq]; omega, ?_⟩
    rw [is_tuple_d]
    try trivial
  · trivial
theorem find_map {α β γ : Type} (f : α → Option β) (g : β → γ) : ∀ l : List α, l.findSome? (fun x => (f x).map g) = (l.findSome? f).map g
  | [] => rfl
  | x :: l => by
    rw [List.findSome?_cons, List.findSome?_cons]
    cases f x with
    | none => exact find_map f g l
    | some b => rfl
abbrev enP2 (p : D × Nat) : D := .tuple [.int (p.2 : Nat), p.1]
theorem flaw_of_d {n k : Nat} {d : D} (h : Vb n k d) (hn : n ≤ 500000) : F_flaw_of [d] = some (flaw d) := by
  refine is_eq (semP_of ?_)
  show is (G_flaw_of [.fz _, .un, .un, .un, .un]) _
  unfold G_flaw_of
  try trivial
  rw [show F_is_tuple [d, .int 5] = some (.bool (tupB 5 d)) from is_tuple_d]
  try trivial
  cases ht : tupB 5 d with
  | false => rw [if_pos rfl, flaw_no ht]
  | true =>
    obtain ⟨x0, x1, x2, x3, x4, rfl⟩ := tup5 ht
    obtain ⟨h0, h1, h2, h3, h4⟩ := vs5 h
    rw [if_neg (by simp), flaw_5]
    try trivial
    rcases isS_or x0 with ⟨l0, rfl⟩ | ⟨e0, n0⟩
    rotate_left
    · rw [e0, if_pos rfl]
      unfold flaw5
      rw [n0, if_neg (by simp)]
    try trivial
    cases hx0 : eqS tMachine (S l0) with
    | false =>
      rw [if_pos (of_decide_eq_false (eqS_S ▸ hx0))]
      unfold flaw5
      rw [hx0, if_neg (by simp)]
    | true =>
      rw [if_neg (fun z => z (of_decide_eq_true (eqS_S ▸ hx0)))]
      try trivial
      unfold flaw5
      rw [if_pos hx0, are_signs_d h1 hn]
      try trivial
      cases hx1 : sgB x1 with
      | false => rw [if_pos rfl, if_neg (by simp)]
      | true =>
        obtain ⟨sg, rfl⟩ : ∃ sg, x1 = S sg := ⟨_, sgB_str hx1⟩
        have hg := sg_of hx1
        have h6 := hg.2.1
        rw [if_neg (by simp), if_pos rfl, show txt (S sg) = sg from rfl]
        try trivial
        rw [show F_is_text_of [S sg, x2, .int 1000] = some (.bool (txB sg 1000 x2)) from is_text_of_d (m := 1000) h2 hn]
        try trivial
        cases hx2 : txB sg 1000 x2 with
        | false => rw [if_pos rfl, if_neg (by simp)]
        | true =>
          rw [if_neg (by simp), if_pos rfl]
          try trivial
          rw [are_rows_d (by omega) h3 hn]
          try trivial
          cases hx3 : rwB sg.length x3 with
          | false => rw [if_pos rfl, if_neg (by simp)]
          | true =>
            obtain ⟨rs, rfl⟩ : ∃ rs, x3 = .tuple rs := ⟨_, rwB_tup hx3⟩
            have v3 := h3.untup.2
            have l3 := v3.le
            have ht3 : ∀ r ∈ rs, tupB sg.length r = true := by
              rw [rwB_T, Bool.and_eq_true, List.all_eq_true] at hx3
              exact hx3.2
            rw [if_neg (by simp), if_pos rfl, show itT (.tuple rs) = rs from rfl]
            try trivial
            rw [enum_1]
            refine for_ret (fun W => ∃ p q r s, W = [.fz (.tuple [S l0, S sg, x2, .tuple rs, x4]), sl p, sl q, sl r, sl s]) (fun p : D × Nat => badR sg rs.length p.2 (itT p.1)) ⟨none, none, none, none, rfl⟩ ?_ ?_ ?_
            · rintro ⟨r, i⟩ m _ ⟨p, q, r', s, rfl⟩
              have mr : r ∈ rs := by
                have := List.mem_zipIdx_iff_getElem?.mp m
                exact List.mem_of_getElem? this
              obtain ⟨ps, rfl⟩ : ∃ ps, r = .tuple ps := by
                have := ht3 r mr
                cases r with
                | tuple ps => exact ⟨_, rfl⟩
                | _ => cases this
              have vr := (v3.mem _ mr).untup.2
              try trivial
              rw [enum_1]
              unfold badR
              rw [show itT (.tuple ps) = ps from rfl]
              refine for_ret (fun W => ∃ r s, W = [.fz (.tuple [S l0, S sg, x2, .tuple rs, x4]), .fz (.int (i : Nat)), .fz (.tuple ps), sl r, sl s]) (fun p : D × Nat => if mvB sg rs.length p.1 = true then none else some (wrong i p.2)) ⟨r', s, rfl⟩ ?_ ?_ ?_
              · rintro ⟨x, j⟩ m _ ⟨r', s, rfl⟩
                have mx : x ∈ ps := by
                  have := List.mem_zipIdx_iff_getElem?.mp m
                  exact List.mem_of_getElem? this
                try trivial
                rw [is_move_d (vr.mem x mx) hn]
                try trivial
                cases mvB sg rs.length x with
                | true => exact ⟨.inl True.intro, some (.int (j : Nat)), some x, rfl⟩
                | false => exact ⟨rfl, some (.int (j : Nat)), some x, rfl⟩
              · rintro _ ⟨r', s, rfl⟩ hf
                rw [hf]
                exact ⟨.inl rfl, some (.int (i : Nat)), some (.tuple ps), r', s, rfl⟩
              · rintro d _ ⟨r', s, rfl⟩ hf
                rw [hf]
                exact ⟨rfl, some (.int (i : Nat)), some (.tuple ps), r', s, rfl⟩
            · rintro _ ⟨p, q, r, s, rfl⟩ hf
              have hb : badM sg rs.length rs = none := hf
              rw [hb, Option.getD_none]
              unfold flawE
              rw [show itT (.tuple rs) = rs from rfl]
              try trivial
              rw [is_tuple_d]
              try trivial
              cases hx4 : tupB rs.length x4 with
              | false =>
                rw [if_pos rfl]
                have he : endB sg rs.length x4 = false := by
                  rcases isT_or x4 with ⟨es, rfl⟩ | e
                  · rw [endB_T, show decide (es.length = rs.length) = false from hx4, Bool.false_and]
                  · exact endB_no e
                rw [he, if_neg (by simp)]
              | true =>
                obtain ⟨es, rfl⟩ : ∃ es, x4 = .tuple es := by cases x4 <;> first | exact ⟨_, rfl⟩ | cases hx4
                have v4 := h4.untup.2
                have l4 := v4.le
                rw [if_neg (by simp), endB_T, show decide (es.length = rs.length) = true from hx4, Bool.true_and]
                cases s <;> (
                  simp only [sl]
                  try trivial
                  refine ⟨by omega, ?_⟩
                  refine lc_map1 (fun x => .bool (txB sg 1000 x)) (fun x m => ?_) ?_
                  · trivial
                    rw [show F_is_text_of [S sg, x, .int 1000] = some (.bool (txB sg 1000 x)) from is_text_of_d (m := 1000) (v4.mem x m) hn]
                    try trivial
                  · trivial
                    cases es.all (txB sg 1000) <;> trivial)
            · rintro d _ ⟨p, q, r, s, rfl⟩ hf
              have hb : badM sg rs.length rs = some d := hf
              rw [hb, Option.getD_some]
end K20

namespace K20
open Ew PySem L2
variable {a b : Int} {sg l f w : Tx}
local macro_rules
  | `(tactic| trivial) => `(tactic| simp only [↓w_cstS, ↓w_cstT, ↓w_cstI, ↓w_cstB, ↓w_cstN, ↓w_vfK, ↓vfC_fz, ↓vfC_ow, ↓w_mvfK, ↓w_nilA, ↓w_consA, ↓w_consV, ↓w_op2, ↓w_opN, ↓w_asB, ↓w_andT, ↓w_orT, ↓w_notT, ↓w_ifE, ↓w_ofB, ↓w_andV, ↓w_orV, ↓w_notV, ↓w_tupD, ↓w_lstD, ↓w_isiF, ↓w_un1, ↓w_noP, ↓w_atP, ↓w_slF, ↓w_metF, ↓w_callP, ↓w_callK, ↓w_callN, ↓w_mutFK, ↓w_callMK, ↓w_chF, ↓w_skip, ↓w_seq, ↓w_expr, ↓w_ret, ↓w_if, ↓w_putK, ↓w_setK, ↓w_setOK, ↓w_asg, ↓w_nameG, ↓w_tupG, ↓w_consG, ↓w_nilG, ↓w_subGK, ↓w_nilM, ↓w_consMf, ↓w_consMo, ↓w_parS, ↓w_putL0, ↓w_putL, ↓w_itF, ↓w_enF, ↓w_zpF, ↓w_rg1, ↓w_rg2, ↓w_for, ↓w_forL0, ↓w_lcF, ↓w_lcL0, ↓w_yes, ↓w_leF, ↓w_dzF, ↓q_addI, ↓q_subI, ↓q_mulI, ↓q_powI, ↓q_divI, ↓q_modI, ↓q_negI, ↓q_ltI, ↓q_leI, ↓q_gtI, ↓q_geI, ↓q_ltS, ↓q_leI', ↓q_ltI', ↓q_bo, ↓q_io, ↓q_tu, ↓q_on1, ↓q_on2, ↓q_eqSE, ↓q_neSE, ↓q_eqIE, ↓q_neIE, ↓q_addS, ↓q_addT, ↓q_addL, ↓q_ixL, ↓q_ixT, ↓q_ixS, ↓is_at0, ↓is_at1, ↓is_at2, ↓is_at3, ↓is_at4, ↓is_at5, ↓q_lenL, ↓q_lenT, ↓q_lenS, ↓q_int, ↓q_abs, ↓q_max, ↓q_min, ↓q_dm, ↓q_tupL, ↓q_tupT, ↓q_tupS, ↓q_lisL, ↓q_lisT, ↓q_lisS, ↓q_all, ↓q_any, ↓q_items_L, ↓q_items_T, ↓q_items_S, ↓q_seq_L, ↓q_seq_T, ↓q_app, ↓q_in1E, ↓q_ni1E, ↓q_slS, ↓q_slT, ↓q_slL, ↓q_slLL, ↓q_joinL, ↓q_joinS, ↓mpOf_mp, ↓is_some, ↓is_get0, ↓is_getS, ↓setC_0, ↓setC_S, ↓q_keys, pick_10, ↓q_inKE, ↓q_ixK, ↓w_look, ↓val_fz, ↓val_ow, ↓val_mp, ↓redo_ow, ↓redo_mp, ↓q_rvS, ↓q_rvT, ↓q_rvL, ↓w_emD, ↓q_ext, ↓q_isN, ↓q_isntN, ↓w_isi2F, ↓w_lrF1, ↓w_lrF2,
      ok_mul, ok_div, ok_mod, ok_pow, ok_r, ixn_20, ixn_21, q_isTT, q_isTS, q_isSS, q_isST, q_isII, q_okS, q_okLi, enum_map, zip_map, rng_map, Int.cast_ofNat_Int, not_true_eq_false, not_false_eq_true, eq_self, decide_true, decide_false, lit_0, lit_1, lit_2, pOk_un, pOk_fz, pOk_ow, pOk_sl, isOw_ow, isOw_mp, List.getElem?_cons_zero, List.getElem?_cons_succ, List.set_cons_zero, List.set_cons_succ, wipeE, restE, okV, Option.getD_some, List.all_cons, List.all_nil, Bool.and_self, Bool.and_true, Bool.true_and, ↓reduceIte, reduceCtorEq, true_and, and_true, List.length_cons, List.length_nil, Nat.reduceAdd, Nat.reduceLeDiff, Nat.reduceEqDiff, Bool.false_eq_true, List.length_map, Bool.not_true, Bool.not_false, Bool.not_eq_true', decide_eq_true_eq, Bool.not_not, decide_eq_false_iff_not, List.cons_append, List.nil_append])
/-! the law's own look -/
theorem rp {t : Tx} (h : (t.all fun c => decide (c < 128)) = true) (hl : t.length ≤ 1000) : goodE (S t) :=
  (Vb.str (n := 1000) (k := 0) (fun c m => of_decide_eq_true (List.all_eq_true.mp h c m)) hl).good (by omega) (by omega)
theorem shw_machine : shw (S tMachine) = 39 :: tMachine ++ [39] := by decide +kernel
theorem good_machine : goodE (S tMachine) := rp (by decide +kernel) (by decide +kernel)
theorem neq_machine {x : D} : (!decide (shw x = shw (S tMachine))) = !eqS tMachine x := by rw [shw_dec shw_machine (by decide +kernel)]
theorem law_flaw_d {n k : Nat} {d : D} (h : Vb n k d) (hn : n ≤ 500000) (hk : k ≤ 64) : F__law_flaw [d] = some (flaw d) := by
  refine is_eq (semP_of ?_)
  show is (G__law_flaw [.fz _, .un, .un, .un, .un, .un, .un, .un, .un, .un]) _
  unfold G__law_flaw
  rcases isT_or d with ⟨ds, rfl⟩ | e
  rotate_left
  · trivial
    rw [e, if_pos rfl, flaw_no (tupB_no e)]
  rw [w_seq]
  refine is_mono (P := fun x => match (tupB 5 (.tuple ds) && eqS tMachine ((ds[0]?).getD .none)) with
    | false => x.1 = .rt (.tuple [S tForm])
    | true => x = (.nx, [.fz (.tuple ds), .un, .un, .un, .un, .un, .un, .un, .un, .un])) ?_ ?_
  · trivial
    cases ht : tupB 5 (.tuple ds) with
    | false =>
      have hl : ¬ ds.length = 5 := of_decide_eq_false ht
      rw [if_pos (by omega)]
      exact True.intro
    | true =>
      obtain ⟨x0, x1, x2, x3, x4, e⟩ := tup5 ht
      cases e
      obtain ⟨h0, h1, h2, h3, h4⟩ := vs5 h
      rw [if_neg (fun z => z rfl)]
      trivial
      rw [q_rep (h0.good (by omega) hk)]
      try trivial
      rw [q_rep good_machine]
      try trivial
      have e := neq_machine (x := x0)
      have e2 : (shw x0 = shw (S tMachine)) ↔ eqS tMachine x0 = true := by
        cases hx : eqS tMachine x0 with
        | true => rw [hx] at e; simpa using e
        | false => rw [hx] at e; simpa using e
      cases hx : eqS tMachine x0 with
      | true =>
        rw [if_neg (fun z => z (e2.mpr hx))]
        exact True.intro
      | false =>
        rw [if_pos (fun z => by rw [e2.mp z] at hx; cases hx)]
        exact True.intro
  rintro ⟨fl, E⟩ hE
  cases ht : tupB 5 (.tuple ds) with
  | false =>
    rw [ht] at hE
    have hE : fl = .rt _ := hE
    subst hE
    rw [flaw_no ht]
  | true =>
    obtain ⟨x0, x1, x2, x3, x4, e⟩ := tup5 ht
    cases e
    obtain ⟨h0, h1, h2, h3, h4⟩ := vs5 h
    rw [flaw_5]
    unfold flaw5
    rw [ht, Bool.true_and, show ([x0, x1, x2, x3, x4][0]?).getD .none = x0 from rfl] at hE
    cases hx0 : eqS tMachine x0 with
    | false =>
      rw [hx0] at hE
      have hE : fl = .rt _ := hE
      subst hE
      rw [if_neg (by simp)]
    | true =>
      rw [hx0] at hE
      cases hE
      rw [if_pos rfl]
      try trivial
      rw [law_are_signs_d h1 hn]
      try trivial
      cases hx1 : sgB x1 with
      | false => rw [if_pos rfl, if_neg (by simp)]
      | true =>
        obtain ⟨sg, rfl⟩ : ∃ sg, x1 = S sg := ⟨_, sgB_str hx1⟩
        have hg := sg_of hx1
        have h6 := hg.2.1
        rw [if_neg (by simp), if_pos rfl, show txt (S sg) = sg from rfl]
        try trivial
        rw [law_is_string_d h2 hn]
        try trivial
        cases hx2 : txB sg 1000 x2 with
        | false => rw [if_pos rfl, if_neg (by simp)]
        | true =>
          rw [if_neg (by simp), if_pos rfl]
          rcases isT_or x3 with ⟨rs, rfl⟩ | e3
          rotate_left
          · try trivial
            rw [e3, if_pos rfl, rwB_no e3, if_neg (by simp)]
          have v3 := h3.untup.2
          have l3 := v3.le
          rw [rwB_T]
          try trivial
          by_cases c1 : 1 ≤ rs.length
          rotate_left
          · rw [if_neg (by omega), decide_eq_false c1, Bool.false_and, Bool.false_and, if_neg (by simp)]
          by_cases c2 : rs.length ≤ 200
          rotate_left
          · rw [if_pos (by omega), if_pos (by omega), decide_eq_false c2, Bool.and_false, Bool.false_and, if_neg (by simp)]
          rw [if_pos (by omega), if_neg (by omega), decide_eq_true c1, decide_eq_true c2, Bool.and_self, Bool.true_and]
          try trivial
          refine for_ret1 (fun W => ∃ p, W = [.fz (.tuple [x0, S sg, x2, .tuple rs, x4]), .fz x0, .fz (S sg), .fz x2, .fz (.tuple rs), .fz x4, sl p, .un, .un, .un]) (fun r => if tupB sg.length r = true then none else some (.tuple [S tMoves])) ⟨none, rfl⟩ ?_ ?_ ?_
          · rintro r m _ ⟨p, rfl⟩
            rcases isT_or r with ⟨ps, rfl⟩ | e
            · trivial
              refine ⟨by rw [sz_eq]; omega, ?_⟩
              cases hp : tupB sg.length (.tuple ps) with
              | true =>
                have hl : ps.length = sg.length := of_decide_eq_true hp
                rw [if_neg (by omega)]
                exact ⟨.inl True.intro, some (.tuple ps), rfl⟩
              | false =>
                have hl : ¬ ps.length = sg.length := of_decide_eq_false hp
                rw [if_pos (by omega)]
                exact ⟨rfl, some (.tuple ps), rfl⟩
            · trivial
              rw [e, if_pos rfl, tupB_no e]
              exact ⟨rfl, some r, rfl⟩
          · rintro _ ⟨p, rfl⟩ hf
            have ht3 : ∀ r ∈ rs, tupB sg.length r = true := fun r m => by
              have := List.findSome?_eq_none_iff.mp hf r m
              cases hr : tupB sg.length r with
              | true => rfl
              | false => rw [hr, if_neg (by simp)] at this; cases this
            rw [if_pos (List.all_eq_true.mpr ht3), show itT (.tuple rs) = rs from rfl]
            try trivial
            rw [enum_1]
            refine for_ret (fun W => ∃ p q r s, W = [.fz (.tuple [x0, S sg, x2, .tuple rs, x4]), .fz x0, .fz (S sg), .fz x2, .fz (.tuple rs), .fz x4, sl p, sl q, sl r, sl s]) (fun p : D × Nat => badR sg rs.length p.2 (itT p.1)) ⟨p, none, none, none, rfl⟩ ?_ ?_ ?_
            · rintro ⟨r, i⟩ m _ ⟨p, q, r', s, rfl⟩
              have mr : r ∈ rs := List.mem_of_getElem? (List.mem_zipIdx_iff_getElem?.mp m)
              obtain ⟨ps, rfl⟩ : ∃ ps, r = .tuple ps := by
                have := ht3 r mr
                cases r with
                | tuple ps => exact ⟨_, rfl⟩
                | _ => cases this
              have vr := (v3.mem _ mr).untup.2
              trivial
              rw [enum_1]
              unfold badR
              rw [show itT (.tuple ps) = ps from rfl]
              refine for_ret (fun W => ∃ r s, W = [.fz (.tuple [x0, S sg, x2, .tuple rs, x4]), .fz x0, .fz (S sg), .fz x2, .fz (.tuple rs), .fz x4, .fz (.tuple ps), .fz (.int (i : Nat)), sl r, sl s]) (fun p : D × Nat => if mvB sg rs.length p.1 = true then none else some (wrong i p.2)) ⟨r', s, rfl⟩ ?_ ?_ ?_
              · rintro ⟨x, j⟩ m _ ⟨r', s, rfl⟩
                have mx : x ∈ ps := List.mem_of_getElem? (List.mem_zipIdx_iff_getElem?.mp m)
                trivial
                rw [law_is_move_d (vr.mem x mx) hn]
                trivial
                cases mvB sg rs.length x with
                | true => exact ⟨.inl True.intro, some (.int (j : Nat)), some x, rfl⟩
                | false => exact ⟨rfl, some (.int (j : Nat)), some x, rfl⟩
              · rintro _ ⟨r', s, rfl⟩ hf
                rw [hf]
                exact ⟨.inl rfl, some (.tuple ps), some (.int (i : Nat)), r', s, rfl⟩
              · rintro d _ ⟨r', s, rfl⟩ hf
                rw [hf]
                exact ⟨rfl, some (.tuple ps), some (.int (i : Nat)), r', s, rfl⟩
            · rintro _ ⟨p, q, r, s, rfl⟩ hf
              have hb : badM sg rs.length rs = none := hf
              rw [hb, Option.getD_none]
              unfold flawE
              rw [show itT (.tuple rs) = rs from rfl]
              rcases isT_or x4 with ⟨es, rfl⟩ | e4
              rotate_left
              · try trivial
                rw [e4, if_pos rfl, endB_no e4, if_neg (by simp)]
              have v4 := h4.untup.2
              have l4 := v4.le
              rw [endB_T]
              try trivial
              by_cases c4 : es.length = rs.length
              rotate_left
              · rw [if_pos (by omega), decide_eq_false c4, Bool.false_and, if_neg (by simp)]
              rw [if_neg (by omega), decide_eq_true c4, Bool.true_and]
              cases s <;> (
                simp only [sl]
                try trivial
                refine ⟨by omega, ?_⟩
                refine lc_map1 (fun x => .bool (txB sg 1000 x)) (fun x m => ?_) ?_
                · trivial
                  rw [law_is_string_d (v4.mem x m) hn]
                  trivial
                · trivial
                  cases es.all (txB sg 1000) <;> trivial)
            · rintro d _ ⟨p, q, r, s, rfl⟩ hf
              have hb : badM sg rs.length rs = some d := hf
              rw [hb, Option.getD_some]
          · rintro d _ ⟨p, rfl⟩ hf
            have hall : rs.all (tupB sg.length) = false := by
              rw [Bool.eq_false_iff]
              intro z
              rw [List.all_eq_true] at z
              have : rs.findSome? (fun r => if tupB sg.length r = true then none else some (PyData.tuple [S tMoves])) = none := List.findSome?_eq_none_iff.mpr fun r m => by rw [z r m, if_pos rfl]
              rw [this] at hf; cases hf
            rw [hall, if_neg (by simp)]
            obtain ⟨r, _, hr⟩ := List.exists_of_findSome?_eq_some hf
            split at hr
            · cases hr
            · cases hr
              try trivial
end K20

namespace K20
open Ew PySem L2
variable {a b : Int} {sg l f w : Tx}
local macro_rules
  | `(tactic| trivial) => `(tactic| simp only [↓w_cstS, ↓w_cstT, ↓w_cstI, ↓w_cstB, ↓w_cstN, ↓w_vfK, ↓vfC_fz, ↓vfC_ow, ↓w_mvfK, ↓w_nilA, ↓w_consA, ↓w_consV, ↓w_op2, ↓w_opN, ↓w_asB, ↓w_andT, ↓w_orT, ↓w_notT, ↓w_ifE, ↓w_ofB, ↓w_andV, ↓w_orV, ↓w_notV, ↓w_tupD, ↓w_lstD, ↓w_isiF, ↓w_un1, ↓w_noP, ↓w_atP, ↓w_slF, ↓w_metF, ↓w_callP, ↓w_callK, ↓w_callN, ↓w_mutFK, ↓w_callMK, ↓w_chF, ↓w_skip, ↓w_seq, ↓w_expr, ↓w_ret, ↓w_if, ↓w_putK, ↓w_setK, ↓w_setOK, ↓w_asg, ↓w_nameG, ↓w_tupG, ↓w_consG, ↓w_nilG, ↓w_subGK, ↓w_nilM, ↓w_consMf, ↓w_consMo, ↓w_parS, ↓w_putL0, ↓w_putL, ↓w_itF, ↓w_enF, ↓w_zpF, ↓w_rg1, ↓w_rg2, ↓w_for, ↓w_forL0, ↓w_lcF, ↓w_lcL0, ↓w_yes, ↓w_leF, ↓w_dzF, ↓q_addI, ↓q_subI, ↓q_mulI, ↓q_powI, ↓q_divI, ↓q_modI, ↓q_negI, ↓q_ltI, ↓q_leI, ↓q_gtI, ↓q_geI, ↓q_ltS, ↓q_leI', ↓q_ltI', ↓q_bo, ↓q_io, ↓q_tu, ↓q_on1, ↓q_on2, ↓q_eqSE, ↓q_neSE, ↓q_eqIE, ↓q_neIE, ↓q_addS, ↓q_addT, ↓q_addL, ↓q_ixL, ↓q_ixT, ↓q_ixS, ↓is_at0, ↓is_at1, ↓is_at2, ↓is_at3, ↓is_at4, ↓is_at5, ↓q_lenL, ↓q_lenT, ↓q_lenS, ↓q_int, ↓q_abs, ↓q_max, ↓q_min, ↓q_dm, ↓q_tupL, ↓q_tupT, ↓q_tupS, ↓q_lisL, ↓q_lisT, ↓q_lisS, ↓q_all, ↓q_any, ↓q_items_L, ↓q_items_T, ↓q_items_S, ↓q_seq_L, ↓q_seq_T, ↓q_app, ↓q_in1E, ↓q_ni1E, ↓q_slS, ↓q_slT, ↓q_slL, ↓q_slLL, ↓q_joinL, ↓q_joinS, ↓mpOf_mp, ↓is_some, ↓is_get0, ↓is_getS, ↓setC_0, ↓setC_S, ↓q_keys, pick_10, ↓q_inKE, ↓q_ixK, ↓w_look, ↓val_fz, ↓val_ow, ↓val_mp, ↓redo_ow, ↓redo_mp, ↓q_rvS, ↓q_rvT, ↓q_rvL, ↓w_emD, ↓q_ext, ↓q_isN, ↓q_isntN, ↓w_isi2F, ↓w_lrF1, ↓w_lrF2,
      ok_mul, ok_div, ok_mod, ok_pow, ok_r, ixn_20, ixn_21, q_isTT, q_isTS, q_isSS, q_isST, q_isII, q_okS, q_okLi, enum_map, zip_map, rng_map, Int.cast_ofNat_Int, not_true_eq_false, not_false_eq_true, eq_self, decide_true, decide_false, lit_0, lit_1, lit_2, pOk_un, pOk_fz, pOk_ow, pOk_sl, isOw_ow, isOw_mp, List.getElem?_cons_zero, List.getElem?_cons_succ, List.set_cons_zero, List.set_cons_succ, wipeE, restE, okV, Option.getD_some, List.all_cons, List.all_nil, Bool.and_self, Bool.and_true, Bool.true_and, ↓reduceIte, reduceCtorEq, true_and, and_true, List.length_cons, List.length_nil, Nat.reduceAdd, Nat.reduceLeDiff, Nat.reduceEqDiff, Bool.false_eq_true, List.length_map, Bool.not_true, Bool.not_false, Bool.not_eq_true', decide_eq_true_eq, Bool.not_not, decide_eq_false_iff_not, List.cons_append, List.nil_append])
/-! is any value a machine -/
theorem badR_iff {n i : Nat} {r : List D} : badR sg n i r = none ↔ r.all (mvB sg n) = true := by
  unfold badR
  rw [List.findSome?_eq_none_iff, List.all_eq_true]
  constructor
  · intro h x m
    obtain ⟨j, hj, e⟩ := List.getElem_of_mem m
    have := h (x, j) (List.mem_zipIdx_iff_getElem?.mpr (by rw [List.getElem?_eq_getElem hj, e]))
    cases hx : mvB sg n x with
    | true => rfl
    | false => rw [hx, if_neg (by simp)] at this; cases this
  · rintro h ⟨x, j⟩ m
    rw [h x (List.mem_of_getElem? (List.mem_zipIdx_iff_getElem?.mp m)), if_pos rfl]
theorem badM_iff {n : Nat} {rs : List D} : badM sg n rs = none ↔ (rs.all fun r => (itT r).all (mvB sg n)) = true := by
  unfold badM
  rw [List.findSome?_eq_none_iff, List.all_eq_true]
  constructor
  · intro h x m
    obtain ⟨j, hj, e⟩ := List.getElem_of_mem m
    exact badR_iff.mp (h (x, j) (List.mem_zipIdx_iff_getElem?.mpr (by rw [List.getElem?_eq_getElem hj, e])))
  · rintro h ⟨x, j⟩ m
    exact badR_iff.mpr (h x (List.mem_of_getElem? (List.mem_zipIdx_iff_getElem?.mp m)))
theorem badM_some {n : Nat} {rs : List D} {d : D} (h : badM sg n rs = some d) : ∃ i j, (i < rs.length ∧ ∃ r ∈ rs, j < (itT r).length) ∧ d = wrong i j := by
  obtain ⟨p, mp, hp⟩ := List.exists_of_findSome?_eq_some h
  obtain ⟨q, mq, hq⟩ := List.exists_of_findSome?_eq_some hp
  have ep := List.mem_zipIdx_iff_getElem?.mp mp
  have eq := List.mem_zipIdx_iff_getElem?.mp mq
  split at hq
  · cases hq
  · cases hq
    exact ⟨_, _, ⟨(List.getElem?_eq_some_iff.mp ep).1, p.1, List.mem_of_getElem? ep, (List.getElem?_eq_some_iff.mp eq).1⟩, rfl⟩
def mcB (d : D) : Bool := isNone (flaw d)
theorem mcB_bad {rs : List D} {n : Nat} {e : D} : isNone ((badM sg n rs).getD e) = ((rs.all fun r => (itT r).all (mvB sg n)) && isNone e) := by
  cases hb : badM sg n rs with
  | none => rw [badM_iff.mp hb, Bool.true_and]; rfl
  | some d =>
    obtain ⟨i, j, -, rfl⟩ := badM_some hb
    have : (rs.all fun r => (itT r).all (mvB sg n)) = false := by
      rw [Bool.eq_false_iff]
      intro z
      rw [badM_iff.mpr z] at hb; cases hb
    rw [this, Bool.false_and]; rfl
theorem mcB_no {d : D} (h : tupB 5 d = false) : mcB d = false := by unfold mcB; rw [flaw_no h]; rfl
theorem is_machine_any_d {n k : Nat} {d : D} (h : Vb n k d) (hn : n ≤ 500000) : F_is_machine_any [d] = some (.bool (mcB d)) := by
  refine is_eq (semP_of ?_)
  show is (G_is_machine_any [.fz _, .un, .un, .un, .un, .un, .un]) _
  unfold G_is_machine_any
  trivial
  rw [show F_is_tuple [d, .int 5] = some (.bool (tupB 5 d)) from is_tuple_d]
  trivial
  cases ht : tupB 5 d with
  | false => rw [if_pos rfl, mcB_no ht]
  | true =>
    obtain ⟨x0, x1, x2, x3, x4, rfl⟩ := tup5 ht
    obtain ⟨h0, h1, h2, h3, h4⟩ := vs5 h
    unfold mcB
    rw [if_neg (by simp), flaw_5]
    unfold flaw5
    trivial
    rcases isS_or x0 with ⟨l0, rfl⟩ | ⟨e0, n0⟩
    rotate_left
    · rw [e0, if_pos rfl]
      rw [n0, if_neg (by simp)]
      rfl
    try trivial
    cases hx0 : eqS tMachine (S l0) with
    | false =>
      rw [if_pos (of_decide_eq_false (eqS_S ▸ hx0)), if_neg (by simp)]
      rfl
    | true =>
      rw [if_neg (fun z => z (of_decide_eq_true (eqS_S ▸ hx0))), if_pos rfl]
      try trivial
      rw [are_signs_d h1 hn]
      try trivial
      cases hx1 : sgB x1 with
      | false => rw [if_pos rfl, if_neg (by simp)]; rfl
      | true =>
        obtain ⟨sg, rfl⟩ : ∃ sg, x1 = S sg := ⟨_, sgB_str hx1⟩
        have hg := sg_of hx1
        have h6 := hg.2.1
        rw [if_neg (by simp), if_pos rfl, show txt (S sg) = sg from rfl]
        try trivial
        rw [cutT_from (by decide), show List.drop (Int.toNat 1) [S l0, S sg, x2, x3, x4] = [S sg, x2, x3, x4] from rfl]
        try trivial
        rw [show F_is_text_of [S sg, x2, .int 1000] = some (.bool (txB sg 1000 x2)) from is_text_of_d (m := 1000) h2 hn]
        try trivial
        cases hx2 : txB sg 1000 x2 with
        | false => rw [if_pos rfl, if_neg (by simp)]; rfl
        | true =>
          rw [if_neg (by simp), if_pos rfl]
          rcases isT_or x3 with ⟨rs, rfl⟩ | e3
          rotate_left
          · try trivial
            rw [e3, if_pos rfl, rwB_no e3, if_neg (by simp)]
            rfl
          have v3 := h3.untup.2
          have l3 := v3.le
          rw [rwB_T]
          try trivial
          by_cases c1 : 1 ≤ rs.length
          rotate_left
          · rw [if_neg (by omega), decide_eq_false c1, Bool.false_and, Bool.false_and, if_neg (by simp)]
            rfl
          by_cases c2 : rs.length ≤ 200
          rotate_left
          · rw [if_pos (by omega), if_pos (by omega), decide_eq_false c2, Bool.and_false, Bool.false_and, if_neg (by simp)]
            rfl
          rw [if_pos (by omega), if_neg (by omega), decide_eq_true c1, decide_eq_true c2, Bool.and_self, Bool.true_and]
          try trivial
          rw [is_tuple_d, show itT (.tuple rs) = rs from rfl]
          try trivial
          have fin : ∀ c : Bool, c = false → isNone (if rs.all (tupB sg.length) = true then (badM sg rs.length rs).getD (if c = true then PyData.none else .tuple [S tEnds]) else .tuple [S tMoves]) = false := by
            rintro c rfl
            split
            · rw [mcB_bad]
              exact Bool.and_false _
            · rfl
          unfold flawE
          rw [show itT (.tuple rs) = rs from rfl]
          cases hx4 : tupB rs.length x4 with
          | false =>
            rw [if_pos rfl, fin]
            rcases isT_or x4 with ⟨es, rfl⟩ | e
            · rw [endB_T, show decide (es.length = rs.length) = false from hx4, Bool.false_and]
            · exact endB_no e
          | true =>
            obtain ⟨es, rfl⟩ : ∃ es, x4 = .tuple es := by cases x4 <;> first | exact ⟨_, rfl⟩ | cases hx4
            have v4 := h4.untup.2
            have l4 := v4.le
            rw [if_neg (by simp), endB_T, show decide (es.length = rs.length) = true from hx4, Bool.true_and]
            try trivial
            refine ⟨by omega, ?_⟩
            refine lc_map1 (fun x => .bool (txB sg 1000 x)) (fun x m => ?_) ?_
            · trivial
              rw [show F_is_text_of [S sg, x, .int 1000] = some (.bool (txB sg 1000 x)) from is_text_of_d (m := 1000) (v4.mem x m) hn]
              trivial
            · trivial
              cases hes : es.all (txB sg 1000) with
              | false => rw [if_pos rfl, fin _ rfl]
              | true =>
                rw [if_neg (by simp)]
                try trivial
                refine ⟨by omega, ?_⟩
                refine lc_map1 (fun x => .bool (tupB sg.length x)) (fun x m => ?_) ?_
                · trivial
                  refine ⟨by rw [sz_eq]; omega, ?_⟩
                  rw [is_tuple_d]
                  trivial
                · trivial
                  cases hrs : rs.all (tupB sg.length) with
                  | false => rw [if_pos rfl, if_neg (by simp)]; rfl
                  | true =>
                    rw [if_neg (by simp), if_pos rfl, mcB_bad]
                    try trivial
                    refine ⟨by omega, ?_⟩
                    refine lc_map1 (fun x => .bool ((itT x).all (mvB sg rs.length))) (fun x m => ?_) ?_
                    · obtain ⟨ps, rfl⟩ : ∃ ps, x = .tuple ps := by
                        have := List.all_eq_true.mp hrs x m
                        cases x with
                        | tuple ps => exact ⟨_, rfl⟩
                        | _ => cases this
                      have vx := (v3.mem _ m).untup.2
                      have lx := vx.le
                      trivial
                      refine ⟨by omega, ?_⟩
                      refine lc_map1 (fun x => .bool (mvB sg rs.length x)) (fun x m => ?_) ?_
                      · trivial
                        rw [is_move_d (vx.mem x m) hn]
                        trivial
                      · trivial
                        rfl
                    · trivial
                      rw [show isNone (PyData.none) = true from rfl, Bool.and_true]
theorem machine_flaw_d {n k : Nat} {d : D} (h : Vb n k d) (hn : n ≤ 500000) : F_machine_flaw [d] = some (flaw d) := by
  refine is_eq (semP_of ?_)
  show is (G_machine_flaw [.fz _]) _
  unfold G_machine_flaw
  trivial
  rw [flaw_of_d h hn]
  trivial
theorem is_machine_d {n k : Nat} {d : D} (h : Vb n k d) (hn : n ≤ 500000) : F_is_machine [d] = some (.bool (mcB d)) := by
  refine is_eq (semP_of ?_)
  show is (G_is_machine [.fz _]) _
  unfold G_is_machine
  trivial
  rw [is_machine_any_d h hn]
  trivial
end K20

namespace K20
open Ew PySem L2
variable {a b : Int} {sg l f w : Tx}
local macro_rules
  | `(tactic| trivial) => `(tactic| simp only [↓w_cstS, ↓w_cstT, ↓w_cstI, ↓w_cstB, ↓w_cstN, ↓w_vfK, ↓vfC_fz, ↓vfC_ow, ↓w_mvfK, ↓w_nilA, ↓w_consA, ↓w_consV, ↓w_op2, ↓w_opN, ↓w_asB, ↓w_andT, ↓w_orT, ↓w_notT, ↓w_ifE, ↓w_ofB, ↓w_andV, ↓w_orV, ↓w_notV, ↓w_tupD, ↓w_lstD, ↓w_isiF, ↓w_un1, ↓w_noP, ↓w_atP, ↓w_slF, ↓w_metF, ↓w_callP, ↓w_callK, ↓w_callN, ↓w_mutFK, ↓w_callMK, ↓w_chF, ↓w_skip, ↓w_seq, ↓w_expr, ↓w_ret, ↓w_if, ↓w_putK, ↓w_setK, ↓w_setOK, ↓w_asg, ↓w_nameG, ↓w_tupG, ↓w_consG, ↓w_nilG, ↓w_subGK, ↓w_nilM, ↓w_consMf, ↓w_consMo, ↓w_parS, ↓w_putL0, ↓w_putL, ↓w_itF, ↓w_enF, ↓w_zpF, ↓w_rg1, ↓w_rg2, ↓w_for, ↓w_forL0, ↓w_lcF, ↓w_lcL0, ↓w_yes, ↓w_leF, ↓w_dzF, ↓q_addI, ↓q_subI, ↓q_mulI, ↓q_powI, ↓q_divI, ↓q_modI, ↓q_negI, ↓q_ltI, ↓q_leI, ↓q_gtI, ↓q_geI, ↓q_ltS, ↓q_leI', ↓q_ltI', ↓q_bo, ↓q_io, ↓q_tu, ↓q_on1, ↓q_on2, ↓q_eqSE, ↓q_neSE, ↓q_eqIE, ↓q_neIE, ↓q_addS, ↓q_addT, ↓q_addL, ↓q_ixL, ↓q_ixT, ↓q_ixS, ↓is_at0, ↓is_at1, ↓is_at2, ↓is_at3, ↓is_at4, ↓is_at5, ↓q_lenL, ↓q_lenT, ↓q_lenS, ↓q_int, ↓q_abs, ↓q_max, ↓q_min, ↓q_dm, ↓q_tupL, ↓q_tupT, ↓q_tupS, ↓q_lisL, ↓q_lisT, ↓q_lisS, ↓q_all, ↓q_any, ↓q_items_L, ↓q_items_T, ↓q_items_S, ↓q_seq_L, ↓q_seq_T, ↓q_app, ↓q_in1E, ↓q_ni1E, ↓q_slS, ↓q_slT, ↓q_slL, ↓q_slLL, ↓q_joinL, ↓q_joinS, ↓mpOf_mp, ↓is_some, ↓is_get0, ↓is_getS, ↓setC_0, ↓setC_S, ↓q_keys, pick_10, ↓q_inKE, ↓q_ixK, ↓w_look, ↓val_fz, ↓val_ow, ↓val_mp, ↓redo_ow, ↓redo_mp, ↓q_rvS, ↓q_rvT, ↓q_rvL, ↓w_emD, ↓q_ext, ↓q_isN, ↓q_isntN, ↓w_isi2F, ↓w_lrF1, ↓w_lrF2,
      ok_mul, ok_div, ok_mod, ok_pow, ok_r, ixn_20, ixn_21, q_isTT, q_isTS, q_isSS, q_isST, q_isII, q_okS, q_okLi, enum_map, zip_map, rng_map, Int.cast_ofNat_Int, not_true_eq_false, not_false_eq_true, eq_self, decide_true, decide_false, lit_0, lit_1, lit_2, pOk_un, pOk_fz, pOk_ow, pOk_sl, isOw_ow, isOw_mp, List.getElem?_cons_zero, List.getElem?_cons_succ, List.set_cons_zero, List.set_cons_succ, wipeE, restE, okV, Option.getD_some, List.all_cons, List.all_nil, Bool.and_self, Bool.and_true, Bool.true_and, ↓reduceIte, reduceCtorEq, true_and, and_true, List.length_cons, List.length_nil, Nat.reduceAdd, Nat.reduceLeDiff, Nat.reduceEqDiff, Bool.false_eq_true, List.length_map, Bool.not_true, Bool.not_false, Bool.not_eq_true', decide_eq_true_eq, Bool.not_not, decide_eq_false_iff_not, List.cons_append, List.nil_append])
/-! a value is right -/
theorem t1_V {t : Tx} (h : (t.all fun c => decide (c < 128)) = true) (hl : t.length ≤ 7) : Vb 70 1 (.tuple [S t]) := by
  refine Wb.tup (k := 0) ?_
  exact Wb.cons (n := 7) (m := 0) (Vb.str (fun c m => of_decide_eq_true (List.all_eq_true.mp h c m)) hl) Wb.nil (by omega)
theorem flaw_V {n k : Nat} {d : D} (h : Vb n k d) (hn : n ≤ 500000) : Vb 70 1 (flaw d) := by
  cases ht : tupB 5 d with
  | false =>
    rw [flaw_no ht]
    exact t1_V (by decide +kernel) (by decide +kernel)
  | true =>
    obtain ⟨x0, x1, x2, x3, x4, rfl⟩ := tup5 ht
    obtain ⟨h0, h1, h2, h3, h4⟩ := vs5 h
    rw [flaw_5]
    unfold flaw5
    split
    · split
      · split
        · split
          · rename_i hx3
            obtain ⟨rs, rfl⟩ : ∃ rs, x3 = .tuple rs := ⟨_, rwB_tup hx3⟩
            have v3 := h3.untup.2
            have l3 := v3.le
            rw [show itT (.tuple rs) = rs from rfl]
            cases hb : badM (txt x1) rs.length rs with
            | none =>
              rw [Option.getD_none]
              unfold flawE
              split
              · exact Vb.none
              · exact t1_V (by decide +kernel) (by decide +kernel)
            | some d =>
              obtain ⟨i, j, ⟨hi, r, mr, hj⟩, rfl⟩ := badM_some hb
              have hr : (itT r).length ≤ n := by
                have vr := v3.mem r mr
                rcases isT_or r with ⟨ps, rfl⟩ | e
                · exact vr.untup.2.le
                · have : itT r = [] := by cases r <;> first | rfl | cases e
                  rw [this]; exact Nat.zero_le _
              rw [Option.getD_some]
              unfold wrong
              refine Wb.tup (k := 0) ?_
              refine Wb.cons (n := 4) (m := 65) (Vb.str (by decide +kernel) (by decide +kernel)) ?_ (by omega)
              refine Wb.cons (n := 30) (m := 31) (Vb.int (by omega) (by omega)) ?_ (by omega)
              exact Wb.cons (n := 30) (m := 0) (Vb.int (by omega) (by omega)) Wb.nil (by omega)
          · exact t1_V (by decide +kernel) (by decide +kernel)
        · exact t1_V (by decide +kernel) (by decide +kernel)
      · exact t1_V (by decide +kernel) (by decide +kernel)
    · exact t1_V (by decide +kernel) (by decide +kernel)
theorem two_V {n k : Nat} {d : D} (h : Vb n k d) : Vb (2 * n + 2) (k + 1) (.list [d, d]) :=
  Wb.lst (Wb.cons (m := n + 1) h (Wb.cons (m := 0) h Wb.nil (by omega)) (by omega))
theorem law_value_t {n k : Nat} {d : D} (h : Vb n k d) (hn : n ≤ 500000) (hk : k ≤ 60) : F__law_value_right [d] = some (.bool true) := by
  have gd : goodE d := h.good (by omega) (by omega)
  have gf : goodE (.list [flaw d, flaw d]) := (two_V (flaw_V h hn)).good (by omega) (by omega)
  have gb : goodE (.list [.bool (mcB d), .bool (mcB d)]) := (two_V (n := 0) (k := 0) (d := .bool (mcB d)) Vb.bool).good (by omega) (by omega)
  refine is_eq (semP_of ?_)
  show is (G__law_value_right [.fz _, .un, .un]) _
  unfold G__law_value_right
  trivial
  rw [law_flaw_d h hn (by omega)]
  trivial
  rw [q_rep gd]
  try trivial
  rw [machine_flaw_d h hn]
  try trivial
  rw [show pick [0] [d] = [d] from rfl, machine_flaw_d h hn]
  repeat (first | rw [q_rep gf] | rw [q_rep gd] | rw [is_machine_d h hn] | rw [show isNone (flaw d) = mcB d from rfl] | rw [q_rep gb] | trivial)
end K20

namespace K20
open Ew PySem L2
variable {a b : Int} {sg l f w : Tx}
local macro_rules
  | `(tactic| trivial) => `(tactic| simp only [↓w_cstS, ↓w_cstT, ↓w_cstI, ↓w_cstB, ↓w_cstN, ↓w_vfK, ↓vfC_fz, ↓vfC_ow, ↓w_mvfK, ↓w_nilA, ↓w_consA, ↓w_consV, ↓w_op2, ↓w_opN, ↓w_asB, ↓w_andT, ↓w_orT, ↓w_notT, ↓w_ifE, ↓w_ofB, ↓w_andV, ↓w_orV, ↓w_notV, ↓w_tupD, ↓w_lstD, ↓w_isiF, ↓w_un1, ↓w_noP, ↓w_atP, ↓w_slF, ↓w_metF, ↓w_callP, ↓w_callK, ↓w_callN, ↓w_mutFK, ↓w_callMK, ↓w_chF, ↓w_skip, ↓w_seq, ↓w_expr, ↓w_ret, ↓w_if, ↓w_putK, ↓w_setK, ↓w_setOK, ↓w_asg, ↓w_nameG, ↓w_tupG, ↓w_consG, ↓w_nilG, ↓w_subGK, ↓w_nilM, ↓w_consMf, ↓w_consMo, ↓w_parS, ↓w_putL0, ↓w_putL, ↓w_itF, ↓w_enF, ↓w_zpF, ↓w_rg1, ↓w_rg2, ↓w_for, ↓w_forL0, ↓w_lcF, ↓w_lcL0, ↓w_yes, ↓w_leF, ↓w_dzF, ↓q_addI, ↓q_subI, ↓q_mulI, ↓q_powI, ↓q_divI, ↓q_modI, ↓q_negI, ↓q_ltI, ↓q_leI, ↓q_gtI, ↓q_geI, ↓q_ltS, ↓q_leI', ↓q_ltI', ↓q_bo, ↓q_io, ↓q_tu, ↓q_on1, ↓q_on2, ↓q_eqSE, ↓q_neSE, ↓q_eqIE, ↓q_neIE, ↓q_addS, ↓q_addT, ↓q_addL, ↓q_ixL, ↓q_ixT, ↓q_ixS, ↓is_at0, ↓is_at1, ↓is_at2, ↓is_at3, ↓is_at4, ↓is_at5, ↓q_lenL, ↓q_lenT, ↓q_lenS, ↓q_int, ↓q_abs, ↓q_max, ↓q_min, ↓q_dm, ↓q_tupL, ↓q_tupT, ↓q_tupS, ↓q_lisL, ↓q_lisT, ↓q_lisS, ↓q_all, ↓q_any, ↓q_items_L, ↓q_items_T, ↓q_items_S, ↓q_seq_L, ↓q_seq_T, ↓q_app, ↓q_in1E, ↓q_ni1E, ↓q_slS, ↓q_slT, ↓q_slL, ↓q_slLL, ↓q_joinL, ↓q_joinS, ↓mpOf_mp, ↓is_some, ↓is_get0, ↓is_getS, ↓setC_0, ↓setC_S, ↓q_keys, pick_10, ↓q_inKE, ↓q_ixK, ↓w_look, ↓val_fz, ↓val_ow, ↓val_mp, ↓redo_ow, ↓redo_mp, ↓q_rvS, ↓q_rvT, ↓q_rvL, ↓w_emD, ↓q_ext, ↓q_isN, ↓q_isntN, ↓w_isi2F, ↓w_lrF1, ↓w_lrF2,
      ok_mul, ok_div, ok_mod, ok_pow, ok_r, ixn_20, ixn_21, q_isTT, q_isTS, q_isSS, q_isST, q_isII, q_okS, q_okLi, enum_map, zip_map, rng_map, Int.cast_ofNat_Int, not_true_eq_false, not_false_eq_true, eq_self, decide_true, decide_false, lit_0, lit_1, lit_2, pOk_un, pOk_fz, pOk_ow, pOk_sl, isOw_ow, isOw_mp, List.getElem?_cons_zero, List.getElem?_cons_succ, List.set_cons_zero, List.set_cons_succ, wipeE, restE, okV, Option.getD_some, List.all_cons, List.all_nil, Bool.and_self, Bool.and_true, Bool.true_and, ↓reduceIte, reduceCtorEq, true_and, and_true, List.length_cons, List.length_nil, Nat.reduceAdd, Nat.reduceLeDiff, Nat.reduceEqDiff, Bool.false_eq_true, List.length_map, Bool.not_true, Bool.not_false, Bool.not_eq_true', decide_eq_true_eq, Bool.not_not, decide_eq_false_iff_not, List.cons_append, List.nil_append])
/-! values bent -/
mutual
theorem asc_b : ∀ d : D, asc d = true → bsc d = true
  | .none, _ => rfl
  | .bool _, _ => rfl
  | .int i, h => by
    simp only [asc, decide_eq_true_eq] at h
    simp only [bsc, decide_eq_true_eq]
    omega
  | .str _, h => by simpa [asc, bsc] using h
  | .list ds, h => by rw [bsc]; exact ascs_b ds (by simpa [asc] using h)
  | .tuple ds, h => by rw [bsc]; exact ascs_b ds (by simpa [asc] using h)
  | .dict kvs, h => by simpa [asc, bsc] using h
theorem ascs_b : ∀ ds : List D, ascs ds = true → bscs ds = true
  | [], _ => rfl
  | d :: ds, h => by
    simp only [ascs, Bool.and_eq_true] at h
    simp [bscs, asc_b d h.1, ascs_b ds h.2]
end
theorem vb {n k : Nat} {d : D} (h : Vd n k d) : Vb n k d := ⟨asc_b d h.as, h.dp, h.wt⟩
theorem wb {n k : Nat} {d : List D} (h : Vs n k d) : Wb n k d := ⟨ascs_b d h.as, h.dp, h.wt⟩
theorem vs_split {n k : Nat} {ds : List D} (h : Vs n k ds) {i : Nat} (hi : i < ds.length) : ∃ w1 w2 w3, w1 + w2 + 1 + w3 ≤ n ∧ Vs w1 k (ds.take i) ∧ Vd w2 k ds[i] ∧ Vs w3 k (ds.drop (i + 1)) := by
  have e : ds = ds.take i ++ ds[i] :: ds.drop (i + 1) := by rw [List.getElem_cons_drop, List.take_append_drop]
  have hw := h.wt
  rw [e, wAll_append, PyData.weightAll] at hw
  have hv := h
  rw [e] at hv
  have h1 := hv.unapp.1
  have h2 := hv.unapp.2.uncons
  exact ⟨_, _, _, by omega, ⟨h1.as, h1.dp, Nat.le_refl _⟩, ⟨h2.1.as, h2.1.dp, Nat.le_refl _⟩, ⟨h2.2.as, h2.2.dp, Nat.le_refl _⟩⟩
theorem ixN_nat {n i : Nat} (h : i < n) : ixN n (i : Int) = some i := by
  unfold ixN
  rw [if_pos (by omega), if_pos (by omega), Int.toNat_natCast]
def BentQ (n k : Nat) : D × D → Prop := fun r => ∃ d', Vb (2 * n + 200) (k + 1) d' ∧ ∃ (a' b' : Int), r = (d', pl a' b')
theorem bent_tuple {r n k : Nat} {ds : List D} (ih : ∀ (a b : Int) (n k : Nat) (d : D), k < r → n ≤ 200000 → Vd n k d → is (M__law_bent_at r (pl a b) [d]) (BentQ n k)) (hk : k < r + 1) (hn : n ≤ 200000) (h : Vd n k (.tuple ds)) : is (M__law_bent_at (r + 1) (pl a b) [.tuple ds]) (BentQ n k) := by
  obtain ⟨hk1, hp⟩ := h.untup
  have hl := hp.le
  have odd : ∀ {a b : Int}, is (M__law_pick (pl a b) [.list [.none, .int 0, .tuple [], .list [], S [97], .tuple [S [97], .int 0], .dict []]]) (BentQ n k) := by
    intro a b
    refine is_mono (pick_L (by simp) (by simp)) ?_
    rintro _ ⟨x, hx, a', b', rfl⟩
    have key : Vb 200 1 x := by
      have : (([.none, .int 0, .tuple [], .list [], S [97], .tuple [S [97], .int 0], .dict []] : List D).all fun d => bsc d && decide (d.depth ≤ 1) && decide (d.weight ≤ 200)) = true := by decide +kernel
      have := List.all_eq_true.mp this x hx
      simp only [Bool.and_eq_true, decide_eq_true_eq] at this
      exact ⟨this.1.1, this.1.2, this.2⟩
    exact ⟨x, key.mono (by omega) (by omega), a', b', rfl⟩
  refine semM_of ?_
  show is (G__law_bent (M__law_bent_at r) [.mp (pl a b), .fz (.tuple ds), .un, .un]) _
  unfold G__law_bent
  rw [w_seq]
  trivial
  by_cases h0 : 0 < ds.length
  rotate_left
  · rw [if_neg (by omega)]
    exact odd
  rw [if_pos (by omega)]
  refine is_mono (draw (by omega) (by omega)) ?_
  rintro _ ⟨j5, a1, b1, h5, rfl⟩
  trivial
  by_cases hz : 0 < j5
  rotate_left
  · rw [if_neg (by omega)]
    exact odd
  rw [if_pos (by omega)]
  refine is_mono (draw (m := (ds.length : Int)) (by omega) (by omega)) ?_
  rintro _ ⟨i, a2, b2, hi, rfl⟩
  have hil : i < ds.length := by omega
  obtain ⟨w1, w2, w3, hw, p1, p2, p3⟩ := vs_split hp hil
  trivial
  refine is_mono (draw (by omega) (by omega)) ?_
  rintro _ ⟨wy, a3, b3, hwy, rfl⟩
  have fin : ∀ {es : List D} {a b : Int}, Wb (2 * n + 200) (k - 1 + 1) es → BentQ n k (.tuple es, pl a b) := fun {es a b} q => ⟨_, q.tup.mono (Nat.le_refl _) (by omega), _, _, rfl⟩
  trivial
  by_cases e0 : wy = 0
  · rw [if_pos (by omega), cutT_to (by omega), cutT_from (by omega), Int.toNat_natCast, show ((i : Int) + 1).toNat = i + 1 by omega]
    refine ⟨by rw [sz_eq]; simp only [List.length_take, List.length_drop]; omega, ?_⟩
    exact fin ((Wb.app (wb p1) (wb p3) (Nat.le_refl _)).mono (by omega) (by omega))
  rw [if_neg (by omega)]
  by_cases e1 : wy = 1
  · rw [if_pos (by omega), cutT_to (by omega), cutT_from (by omega), Int.toNat_natCast, show ((i : Int) + 1).toNat = i + 1 by omega]
    refine ⟨by rw [sz_eq]; simp only [List.length_take, List.length_drop]; omega, ?_⟩
    exact fin ((Wb.app (wb (hp.take (i + 1))) (wb (hp.drop i)) (Nat.le_refl _)).mono (by omega) (by omega))
  rw [if_neg (by omega)]
  by_cases e2 : wy = 2
  · rw [if_pos (by omega)]
    exact ⟨_, ((wb hp).lst).mono (by omega) (by omega), _, _, rfl⟩
  rw [if_neg (by omega)]
  by_cases e3 : wy = 3
  · rw [if_pos (by omega)]
    exact fin ((wb hp.rev).mono (by omega) (by omega))
  rw [if_neg (by omega), at_nat, List.getElem?_eq_getElem hil, is_some]
  refine is_mono (ih a3 b3 w2 (k - 1) _ (by omega) (by omega) p2) ?_
  rintro _ ⟨d', hd', a4, b4, rfl⟩
  try trivial
  rw [cutT_to (by omega), cutT_from (by omega), Int.toNat_natCast, show ((i : Int) + 1).toNat = i + 1 by omega]
  refine ⟨by rw [sz_eq]; simp only [List.length_take]; omega, by rw [sz_eq]; simp only [List.length_append, List.length_take, List.length_drop, List.length_cons, List.length_nil]; omega, ?_⟩
  refine fin ?_
  have q1 : Wb (w1 + (2 * w2 + 200 + 1)) (k - 1 + 1) (ds.take i ++ [d']) := Wb.app ((wb p1).mono (Nat.le_refl _) (by omega)) (Wb.cons (m := 0) hd' Wb.nil (Nat.le_refl _)) (Nat.le_refl _)
  exact Wb.app q1 ((wb p3).mono (Nat.le_refl _) (by omega)) (by omega)
theorem bent_int {r n k : Nat} {i : Int} (h : Vd n k (.int i)) : is (M__law_bent_at (r + 1) (pl a b) [.int i]) (BentQ n k) := by
  have hi : i.natAbs < 1000000000 := of_decide_eq_true h.as
  refine semM_of ?_
  show is (G__law_bent (M__law_bent_at r) [.mp (pl a b), .fz (.int i), .un, .un]) _
  unfold G__law_bent
  trivial
  rw [show isA .tup (.int i) = false from rfl, show isA .bl (.int i) = false from rfl]
  try trivial
  refine ⟨by decide, ?_⟩
  refine is_mono (pick_L (by simp) (by simp)) ?_
  rintro _ ⟨x, hx, a', b', rfl⟩
  refine ⟨x, ?_, a', b', rfl⟩
  refine Vb.mono (n := 200) (k := 1) ?_ (by omega) (by omega)
  simp only [List.mem_cons, List.not_mem_nil, or_false] at hx
  rcases hx with rfl | rfl | rfl | rfl | rfl | rfl | rfl | rfl | rfl
  · exact Vb.big (by omega) (by omega)
  · exact Vb.big (by omega) (by omega)
  · exact Vb.big (by decide) (by omega)
  · exact Vb.bool
  · exact Vb.none
  · exact Vb.str (by decide +kernel) (by decide +kernel)
  · exact Vb.big (by decide) (by omega)
  · exact Wb.tup (k := 0) (Wb.cons (n := 30) (m := 0) (Vb.int hi (by omega)) Wb.nil (by omega))
  · exact Vb.big (by decide) (by omega)
theorem bent_str {r n k : Nat} {t : Tx} (hn : n ≤ 200000) (h : Vd n k (S t)) : is (M__law_bent_at (r + 1) (pl a b) [S t]) (BentQ n k) := by
  obtain ⟨hl, h8⟩ := h.unstr
  refine semM_of ?_
  show is (G__law_bent (M__law_bent_at r) [.mp (pl a b), .fz (S t), .un, .un]) _
  unfold G__law_bent
  trivial
  rw [show isA .int (S t) = false from rfl]
  try trivial
  refine ⟨?_, ?_, ?_⟩
  · rw [sz_eq]; show t.length + 1 ≤ _; omega
  · rw [sz_eq]; omega
  refine is_mono (pick_L (by simp) (by simp)) ?_
  rintro _ ⟨x, hx, a', b', rfl⟩
  refine ⟨x, ?_, a', b', rfl⟩
  refine Vb.mono (n := n + 100) (k := 1) ?_ (by omega) (by omega)
  simp only [List.mem_cons, List.not_mem_nil, or_false] at hx
  rcases hx with rfl | rfl | rfl | rfl | rfl | rfl | rfl | rfl | rfl | rfl | rfl | rfl | rfl
  · refine Vb.str (fun c m => ?_) ?_
    · rcases List.mem_append.mp m with m | m
      · exact h8 c m
      · have key : ∀ c ∈ ("a" : Str).cps.toList, c < 128 := by decide +kernel
        exact key c m
    · rw [List.length_append]
      show t.length + 1 ≤ _
      omega
  · rw [cutT_from (by decide)]
    exact Vb.str (fun c m => h8 c (List.mem_of_mem_drop m)) (by rw [List.length_drop]; omega)
  · exact Vb.str (by decide +kernel) (Nat.le_trans (by decide +kernel) (Nat.le_add_left 100 n))
  · exact Vb.str (by decide +kernel) (Nat.le_trans (by decide +kernel) (Nat.le_add_left 100 n))
  · exact Vb.str (by decide +kernel) (Nat.le_trans (by decide +kernel) (Nat.le_add_left 100 n))
  · exact Vb.str (by decide +kernel) (Nat.le_trans (by decide +kernel) (Nat.le_add_left 100 n))
  · exact Vb.str (by decide +kernel) (Nat.le_trans (by decide +kernel) (Nat.le_add_left 100 n))
  · exact Vb.str (by decide +kernel) (Nat.le_trans (by decide +kernel) (Nat.le_add_left 100 n))
  · exact Vb.str (by decide +kernel) (Nat.le_trans (by decide +kernel) (Nat.le_add_left 100 n))
  · exact Vb.str (by decide +kernel) (Nat.le_trans (by decide +kernel) (Nat.le_add_left 100 n))
  · exact Vb.none
  · exact Vb.big (by decide) (by omega)
  · exact Wb.lst (k := 0) (Wb.cons (n := 1) (m := 0) (Vb.str (by decide +kernel) (by decide +kernel)) Wb.nil (by omega))
theorem kind_or (d : D) : (∃ ds, d = .tuple ds) ∨ (∃ i, d = .int i) ∨ (∃ t, d = S t) ∨ (isA .tup d = false ∧ (isA .int d = true → isA .bl d = true) ∧ isA .str d = false) := by
  cases d with
  | tuple ds => exact .inl ⟨_, rfl⟩
  | int i => exact .inr (.inl ⟨_, rfl⟩)
  | str z => exact .inr (.inr (.inl ⟨_, str_S z⟩))
  | bool _ => exact .inr (.inr (.inr ⟨rfl, fun _ => rfl, rfl⟩))
  | _ => exact .inr (.inr (.inr ⟨rfl, (fun h => nomatch h), rfl⟩))
theorem bent_else {r n k : Nat} {d : D} (h1 : isA .tup d = false) (h2 : isA .int d = true → isA .bl d = true) (h3 : isA .str d = false) : is (M__law_bent_at (r + 1) (pl a b) [d]) (BentQ n k) := by
  have odd : ∀ {a b : Int}, is (M__law_pick (pl a b) [.list [.none, .int 0, .tuple [], .list [], S [97], .tuple [S [97], .int 0], .dict []]]) (BentQ n k) := by
    intro a b
    refine is_mono (pick_L (by simp) (by simp)) ?_
    rintro _ ⟨x, hx, a', b', rfl⟩
    have key : Vb 200 1 x := by
      have : (([.none, .int 0, .tuple [], .list [], S [97], .tuple [S [97], .int 0], .dict []] : List D).all fun d => bsc d && decide (d.depth ≤ 1) && decide (d.weight ≤ 200)) = true := by decide +kernel
      have := List.all_eq_true.mp this x hx
      simp only [Bool.and_eq_true, decide_eq_true_eq] at this
      exact ⟨this.1.1, this.1.2, this.2⟩
    exact ⟨x, key.mono (by omega) (by omega), a', b', rfl⟩
  refine semM_of ?_
  show is (G__law_bent (M__law_bent_at r) [.mp (pl a b), .fz d, .un, .un]) _
  unfold G__law_bent
  trivial
  rw [h1, if_neg (by simp)]
  cases h4 : isA .int d with
  | true =>
    rw [if_pos rfl, h2 h4, if_neg (by simp), h3, if_neg (by simp)]
    exact odd
  | false =>
    rw [if_neg (by simp), h3, if_neg (by simp)]
    exact odd
theorem bent_at : ∀ (r : Nat) (a b : Int) (n k : Nat) (d : D), k < r → n ≤ 200000 → Vd n k d → is (M__law_bent_at r (pl a b) [d]) (BentQ n k)
  | 0, _, _, _, _, _, h, _, _ => absurd h (Nat.not_lt_zero _)
  | r + 1, a, b, n, k, d, hk, hn, h => by
    rcases kind_or d with ⟨ds, rfl⟩ | ⟨i, rfl⟩ | ⟨t, rfl⟩ | ⟨h1, h2, h3⟩
    · exact bent_tuple (bent_at r) hk hn h
    · exact bent_int h
    · exact bent_str hn h
    · exact bent_else h1 h2 h3
theorem bent_t {n k : Nat} {d : D} (hk : k < 9) (hn : n ≤ 200000) (h : Vd n k d) : is (M__law_bent (pl a b) [d]) (BentQ n k) := bent_at 9 a b n k d hk hn h
end K20

namespace K20
open Ew PySem L2
variable {a b : Int} {sg l f w : Tx}
local macro_rules
  | `(tactic| trivial) => `(tactic| simp only [↓w_cstS, ↓w_cstT, ↓w_cstI, ↓w_cstB, ↓w_cstN, ↓w_vfK, ↓vfC_fz, ↓vfC_ow, ↓w_mvfK, ↓w_nilA, ↓w_consA, ↓w_consV, ↓w_op2, ↓w_opN, ↓w_asB, ↓w_andT, ↓w_orT, ↓w_notT, ↓w_ifE, ↓w_ofB, ↓w_andV, ↓w_orV, ↓w_notV, ↓w_tupD, ↓w_lstD, ↓w_isiF, ↓w_un1, ↓w_noP, ↓w_atP, ↓w_slF, ↓w_metF, ↓w_callP, ↓w_callK, ↓w_callN, ↓w_mutFK, ↓w_callMK, ↓w_chF, ↓w_skip, ↓w_seq, ↓w_expr, ↓w_ret, ↓w_if, ↓w_putK, ↓w_setK, ↓w_setOK, ↓w_asg, ↓w_nameG, ↓w_tupG, ↓w_consG, ↓w_nilG, ↓w_subGK, ↓w_nilM, ↓w_consMf, ↓w_consMo, ↓w_parS, ↓w_putL0, ↓w_putL, ↓w_itF, ↓w_enF, ↓w_zpF, ↓w_rg1, ↓w_rg2, ↓w_for, ↓w_forL0, ↓w_lcF, ↓w_lcL0, ↓w_yes, ↓w_leF, ↓w_dzF, ↓q_addI, ↓q_subI, ↓q_mulI, ↓q_powI, ↓q_divI, ↓q_modI, ↓q_negI, ↓q_ltI, ↓q_leI, ↓q_gtI, ↓q_geI, ↓q_ltS, ↓q_leI', ↓q_ltI', ↓q_bo, ↓q_io, ↓q_tu, ↓q_on1, ↓q_on2, ↓q_eqSE, ↓q_neSE, ↓q_eqIE, ↓q_neIE, ↓q_addS, ↓q_addT, ↓q_addL, ↓q_ixL, ↓q_ixT, ↓q_ixS, ↓is_at0, ↓is_at1, ↓is_at2, ↓is_at3, ↓is_at4, ↓is_at5, ↓q_lenL, ↓q_lenT, ↓q_lenS, ↓q_int, ↓q_abs, ↓q_max, ↓q_min, ↓q_dm, ↓q_tupL, ↓q_tupT, ↓q_tupS, ↓q_lisL, ↓q_lisT, ↓q_lisS, ↓q_all, ↓q_any, ↓q_items_L, ↓q_items_T, ↓q_items_S, ↓q_seq_L, ↓q_seq_T, ↓q_app, ↓q_in1E, ↓q_ni1E, ↓q_slS, ↓q_slT, ↓q_slL, ↓q_slLL, ↓q_joinL, ↓q_joinS, ↓mpOf_mp, ↓is_some, ↓is_get0, ↓is_getS, ↓setC_0, ↓setC_S, ↓q_keys, pick_10, ↓q_inKE, ↓q_ixK, ↓w_look, ↓val_fz, ↓val_ow, ↓val_mp, ↓redo_ow, ↓redo_mp, ↓q_rvS, ↓q_rvT, ↓q_rvL, ↓w_emD, ↓q_ext, ↓q_isN, ↓q_isntN, ↓w_isi2F, ↓w_lrF1, ↓w_lrF2,
      ok_mul, ok_div, ok_mod, ok_pow, ok_r, ixn_20, ixn_21, q_isTT, q_isTS, q_isSS, q_isST, q_isII, q_okS, q_okLi, enum_map, zip_map, rng_map, Int.cast_ofNat_Int, not_true_eq_false, not_false_eq_true, eq_self, decide_true, decide_false, lit_0, lit_1, lit_2, pOk_un, pOk_fz, pOk_ow, pOk_sl, isOw_ow, isOw_mp, List.getElem?_cons_zero, List.getElem?_cons_succ, List.set_cons_zero, List.set_cons_succ, wipeE, restE, okV, Option.getD_some, List.all_cons, List.all_nil, Bool.and_self, Bool.and_true, Bool.true_and, ↓reduceIte, reduceCtorEq, true_and, and_true, List.length_cons, List.length_nil, Nat.reduceAdd, Nat.reduceLeDiff, Nat.reduceEqDiff, Bool.false_eq_true, List.length_map, Bool.not_true, Bool.not_false, Bool.not_eq_true', decide_eq_true_eq, Bool.not_not, decide_eq_false_iff_not, List.cons_append, List.nil_append])
/-! the edges -/
theorem q_mulSn {t : Tx} {n : Nat} {Q : D → Prop} (h : n ≤ 1000000) (hl : t.length ≤ 10) : is (ap2 mulD [S t, .int (n : Nat)]) Q ↔ Q (S (List.replicate n t).flatten) := q_mulSl n rfl h hl
theorem q_mulTm {xs : List D} {n : Nat} {Q : D → Prop} (h : n ≤ 1000) (hl : xs.length ≤ 1000) : is (ap2 mulD [.tuple xs, .int (n : Nat)]) Q ↔ Q (.tuple (List.replicate n xs).flatten) := q_mulTn n rfl h hl
theorem q_mul200 {xs : List D} {Q : D → Prop} (hl : xs.length ≤ 1000) : is (ap2 mulD [.tuple xs, .int 200]) Q ↔ Q (.tuple (List.replicate 200 xs).flatten) := q_mulTn 200 rfl (by omega) hl
theorem rep_len {α : Type} {xs : List α} {n : Nat} : (List.replicate n xs).flatten.length = n * xs.length := by
  rw [List.length_flatten, List.map_replicate, List.sum_replicate_nat]
theorem rep_mem {α : Type} {xs : List α} {n : Nat} {x : α} (h : x ∈ (List.replicate n xs).flatten) : x ∈ xs := by
  obtain ⟨l, hl, hx⟩ := List.mem_flatten.mp h
  rw [(List.mem_replicate.mp hl).2] at hx
  exact hx
theorem rep_V {n k m c : Nat} {xs : List D} (h : ∀ d ∈ xs, Vb n k d) (hc : m * xs.length ≤ c) : Wb ((n + 1) * c) k (List.replicate m xs).flatten :=
  Wb.of (fun d m => h d (rep_mem m)) (by rw [rep_len]; exact hc)
theorem mach_V {n1 n2 n3 n4 k : Nat} {x1 x2 x3 x4 : D} (h1 : Vb n1 k x1) (h2 : Vb n2 k x2) (h3 : Vb n3 k x3) (h4 : Vb n4 k x4) : Vb (n1 + n2 + n3 + n4 + 12) (k + 1) (.tuple [S tMachine, x1, x2, x3, x4]) := by
  refine Wb.tup ?_
  refine Wb.cons (n := 7) (m := n1 + n2 + n3 + n4 + 4) (Vb.str (by decide +kernel) (by decide +kernel)) ?_ (by omega)
  refine Wb.cons (m := n2 + n3 + n4 + 3) h1 ?_ (by omega)
  refine Wb.cons (m := n3 + n4 + 2) h2 ?_ (by omega)
  refine Wb.cons (m := n4 + 1) h3 ?_ (by omega)
  exact Wb.cons (m := 0) h4 Wb.nil (by omega)
theorem st_V {k n : Nat} {t : Tx} (h : A8 t) (hl : t.length ≤ n) : Vb n k (S t) := Vb.str h hl
theorem mvD_V {t : Tx} {i : Nat} {n : Nat} (h : A8 t) (hl : t.length ≤ n) (hi : i < 1000000000) : Vb (n + 32) 1 (.tuple [S t, .int (i : Nat)]) :=
  Wb.tup (k := 0) (Wb.cons (n := n) (m := 31) (Vb.str h hl) (Wb.cons (n := 30) (m := 0) (Vb.int (by omega) (by omega)) Wb.nil (by omega)) (by omega))
theorem one_V {n k : Nat} {d : D} (h : Vb n k d) : Vb (n + 1) (k + 1) (.tuple [d]) := Wb.tup (Wb.cons (m := 0) h Wb.nil (by omega))
def EdQ (d : D) : Prop := Vb 20000 5 d
theorem a8a : A8 ("a" : Str).cps.toList := by decide +kernel
theorem a8n : A8 ([] : Tx) := fun c m => nomatch m
theorem edges_t : is (M__law_edges (pl a b) []) fun r => ∃ ds : List D, (∀ d ∈ ds, EdQ d) ∧ ds.length ≤ 13 ∧ ∃ (a' b' : Int), r = (.list ds, pl a' b') := by
  refine semM_of ?_
  show is (G__law_edges [.mp _, .un, .un, .un, .un, .un, .un]) _
  unfold G__law_edges
  rw [w_seq]
  refine is_mono (P := fun x => ∃ (f : Nat) (a b : Int), f < 200 ∧ x = (.nx, [.mp (pl a b), .fz (.int (f : Nat)), .ow (.list []), .un, .un, .un, .un])) ?_ ?_
  · trivial
    refine is_mono (draw (by omega) (by omega)) ?_
    rintro _ ⟨f, a1, b1, hf, rfl⟩
    try trivial
    exact ⟨f, a1, b1, by omega, rfl⟩
  rintro _ ⟨f, a, b, hf, rfl⟩
  show is (seqS _ _ _) _
  rw [w_seq]
  refine is_mono (P := fun x => x.1 = .nx ∧ ∃ (ds : List D) (p q : Option D), (∀ d ∈ ds, EdQ d) ∧ ds.length = 6 ∧ x.2 = [.mp (pl a b), .fz (.int (f : Nat)), .ow (.list ds), sl p, sl q, .un, .un]) ?_ ?_
  · trivial
    refine for_inv1 (fun bb aa W => bb ++ aa = [.int 1000, .int 1001] ∧ ∃ (ds : List D) (p q : Option D), (∀ d ∈ ds, EdQ d) ∧ ds.length = 3 * bb.length ∧ W = [.mp (pl a b), .fz (.int (f : Nat)), .ow (.list ds), sl p, sl q, .un, .un]) (b := []) ⟨rfl, [], none, none, by simp, rfl, rfl⟩ ?_ ?_
    · rintro bb x aa _ ⟨hz, ds, p, q, hd, hl, rfl⟩
      have hx : ∃ m : Nat, m ≤ 1001 ∧ x = .int (m : Nat) := by
        have : x ∈ bb ++ x :: aa := by simp
        rw [hz] at this
        simp only [List.mem_cons, List.not_mem_nil, or_false] at this
        rcases this with rfl | rfl
        · exact ⟨1000, by omega, rfl⟩
        · exact ⟨1001, by omega, rfl⟩
      have hb : bb.length ≤ 2 := by have := congrArg List.length hz; simp at this; omega
      obtain ⟨m, hm, rfl⟩ := hx
      try trivial
      rw [q_mulSn (by omega) (by decide +kernel)]
      have ht : A8 (List.replicate m ("a" : Str).cps.toList).flatten := fun c h => a8a c (rep_mem h)
      have hl' : (List.replicate m ("a" : Str).cps.toList).flatten.length ≤ 1001 := by
        rw [rep_len, show ("a" : Str).cps.toList.length = 1 from by decide +kernel]; omega
      generalize (List.replicate m ("a" : Str).cps.toList).flatten = t at ht hl'
      try trivial
      refine ⟨by rw [sz_eq]; omega, by rw [sz_eq]; simp only [List.length_append, List.length_cons, List.length_nil]; omega, by rw [sz_eq]; simp only [List.length_append, List.length_cons, List.length_nil]; omega, ?_⟩
      refine ⟨.inl True.intro, by rw [List.append_assoc]; exact hz, _, some (.int (m : Nat)), some (S t), ?_, ?_, rfl⟩
      · have e1 : EdQ (.tuple [S tMachine, S ("a" : Str).cps.toList, S t, .tuple [.tuple [.tuple [S [], .int 0]]], .tuple [S []]]) :=
          (mach_V (k := 3) (st_V (n := 1) a8a (by decide +kernel)) (st_V ht hl') (one_V (one_V (mvD_V (n := 0) (i := 0) a8n (Nat.le_refl _) (by omega)))) ((one_V (st_V (k := 0) (n := 0) a8n (Nat.le_refl _))).mono (Nat.le_refl _) (by omega))).mono (by omega) (by omega)
        have e2 : EdQ (.tuple [S tMachine, S ("a" : Str).cps.toList, S [], .tuple [.tuple [.tuple [S t, .int 0]]], .tuple [S []]]) :=
          (mach_V (k := 3) (st_V (n := 1) a8a (by decide +kernel)) (st_V (n := 0) a8n (Nat.le_refl _)) (one_V (one_V (mvD_V (i := 0) ht hl' (by omega)))) ((one_V (st_V (k := 0) (n := 0) a8n (Nat.le_refl _))).mono (Nat.le_refl _) (by omega))).mono (by omega) (by omega)
        have e3 : EdQ (.tuple [S tMachine, S ("a" : Str).cps.toList, S [], .tuple [.tuple [.tuple [S [], .int 0]]], .tuple [S t]]) :=
          (mach_V (k := 3) (st_V (n := 1) a8a (by decide +kernel)) (st_V (n := 0) a8n (Nat.le_refl _)) (one_V (one_V (mvD_V (n := 0) (i := 0) a8n (Nat.le_refl _) (by omega)))) ((one_V (st_V (k := 0) ht hl')).mono (Nat.le_refl _) (by omega))).mono (by omega) (by omega)
        intro d m
        simp only [List.mem_append, List.mem_cons, List.not_mem_nil, or_false] at m
        rcases m with ((m | rfl) | rfl) | rfl
        · exact hd d m
        · exact e1
        · exact e2
        · exact e3
      · simp only [List.length_append, List.length_cons, List.length_nil]; omega
    · rintro _ ⟨hz, ds, p, q, hd, hl, rfl⟩
      exact ⟨rfl, ds, p, q, hd, by rw [hl]; rfl, rfl⟩
  rintro ⟨fl, E⟩ ⟨e0, ds, p, q, hd, hl, e1⟩
  cases e0
  cases e1
  show is (seqS _ _ _) _
  rw [w_seq]
  refine is_mono (P := fun x => x.1 = .nx ∧ ∃ (ds : List D) (p : Option D), (∀ d ∈ ds, EdQ d) ∧ ds.length = 8 ∧ x.2 = [.mp (pl a b), .fz (.int (f : Nat)), .ow (.list ds), sl p, sl q, .un, .un]) ?_ ?_
  · trivial
    refine for_inv1 (fun bb aa W => bb ++ aa = [.int 200, .int 201] ∧ ∃ (ds : List D) (p : Option D), (∀ d ∈ ds, EdQ d) ∧ ds.length = 6 + bb.length ∧ W = [.mp (pl a b), .fz (.int (f : Nat)), .ow (.list ds), sl p, sl q, .un, .un]) (b := []) ⟨rfl, ds, p, hd, hl, rfl⟩ ?_ ?_
    · rintro bb x aa _ ⟨hz, ds, p, hd, hl, rfl⟩
      have hx : ∃ m : Nat, m ≤ 201 ∧ x = .int (m : Nat) := by
        have : x ∈ bb ++ x :: aa := by simp
        rw [hz] at this
        simp only [List.mem_cons, List.not_mem_nil, or_false] at this
        rcases this with rfl | rfl
        · exact ⟨200, by omega, rfl⟩
        · exact ⟨201, by omega, rfl⟩
      have hb : bb.length ≤ 2 := by have := congrArg List.length hz; simp at this; omega
      obtain ⟨m, hm, rfl⟩ := hx
      try trivial
      rw [q_mulTm (by omega) (by simp)]
      try trivial
      rw [q_mulTm (by omega) (by simp)]
      try trivial
      refine ⟨by rw [sz_eq]; omega, .inl True.intro, by rw [List.append_assoc]; exact hz, _, some (.int (m : Nat)), ?_, ?_, rfl⟩
      · intro d mm
        simp only [List.mem_append, List.mem_cons, List.not_mem_nil, or_false] at mm
        rcases mm with mm | rfl
        · exact hd d mm
        · have r1 : Wb ((35 + 1) * 201) 2 (List.replicate m [PyData.tuple [.tuple [S ("a" : Str).cps.toList, .int (f : Nat)]]]).flatten := rep_V (fun d hd => by
            rw [List.mem_singleton.mp hd]
            exact (one_V (mvD_V (n := 1) a8a (by decide +kernel) (by omega))).mono (by omega) (by omega)) (by simpa using hm)
          have r2 : Wb ((0 + 1) * 201) 0 (List.replicate m [S []]).flatten := rep_V (fun d hd => by
            rw [List.mem_singleton.mp hd]
            exact st_V a8n (Nat.le_refl _)) (by simpa using hm)
          exact (mach_V (k := 3) (st_V (n := 1) a8a (by decide +kernel)) (st_V (n := 0) a8n (Nat.le_refl _)) r1.tup (r2.tup.mono (Nat.le_refl _) (by omega))).mono (by omega) (by omega)
      · simp only [List.length_append, List.length_cons, List.length_nil]; omega
    · rintro _ ⟨hz, ds, p, hd, hl, rfl⟩
      exact ⟨rfl, ds, p, hd, by rw [hl]; rfl, rfl⟩
  rintro ⟨fl, E⟩ ⟨e0, ds, p, hd, hl, e1⟩
  cases e0
  cases e1
  show is (seqS _ _ _) _
  rw [w_seq]
  refine is_mono (P := fun x => x.1 = .nx ∧ ∃ (ds : List D) (r : Option D), (∀ d ∈ ds, EdQ d) ∧ ds.length = 10 ∧ x.2 = [.mp (pl a b), .fz (.int (f : Nat)), .ow (.list ds), sl p, sl q, sl r, .un]) ?_ ?_
  · trivial
    refine for_inv1 (fun bb aa W => bb ++ aa = [S ("abcdef" : Str).cps.toList, S ("abcdefg" : Str).cps.toList] ∧ ∃ (ds : List D) (r : Option D), (∀ d ∈ ds, EdQ d) ∧ ds.length = 8 + bb.length ∧ W = [.mp (pl a b), .fz (.int (f : Nat)), .ow (.list ds), sl p, sl q, sl r, .un]) (b := []) ⟨rfl, ds, none, hd, hl, rfl⟩ ?_ ?_
    · rintro bb x aa _ ⟨hz, ds, r, hd, hl, rfl⟩
      have hx : ∃ t : Tx, A8 t ∧ t.length ≤ 7 ∧ x = S t := by
        have : x ∈ bb ++ x :: aa := by simp
        rw [hz] at this
        simp only [List.mem_cons, List.not_mem_nil, or_false] at this
        rcases this with rfl | rfl
        · exact ⟨_, by decide +kernel, by decide +kernel, rfl⟩
        · exact ⟨_, by decide +kernel, by decide +kernel, rfl⟩
      have hb : bb.length ≤ 2 := by have := congrArg List.length hz; simp at this; omega
      obtain ⟨t, ht, h7, rfl⟩ := hx
      try trivial
      refine ⟨by omega, ?_⟩
      refine lc_map (fun c => .tuple [S1 c, .int 0]) (fun c _ => by trivial) ?_
      try trivial
      refine ⟨by rw [sz_eq]; omega, .inl True.intro, by rw [List.append_assoc]; exact hz, _, some (S t), ?_, ?_, rfl⟩
      · intro d mm
        simp only [List.mem_append, List.mem_cons, List.not_mem_nil, or_false] at mm
        rcases mm with mm | rfl
        · exact hd d mm
        · have r1 : Wb ((33 + 1) * 7) 1 (t.map fun c => PyData.tuple [S1 c, .int 0]) := Wb.of (fun d hd => by
            obtain ⟨c, mc, rfl⟩ := List.mem_map.mp hd
            exact mvD_V (t := [c]) (n := 1) (i := 0) (fun x m => by rw [List.mem_singleton.mp m]; exact ht c mc) (by simp) (by omega)) (by simpa using h7)
          exact (mach_V (k := 3) (st_V ht h7) (st_V (n := 0) a8n (Nat.le_refl _)) (one_V r1.tup) ((one_V (st_V (k := 0) (n := 0) a8n (Nat.le_refl _))).mono (Nat.le_refl _) (by omega))).mono (by omega) (by omega)
      · simp only [List.length_append, List.length_cons, List.length_nil]; omega
    · rintro _ ⟨hz, ds, r, hd, hl, rfl⟩
      exact ⟨rfl, ds, r, hd, by rw [hl]; rfl, rfl⟩
  rintro ⟨fl, E⟩ ⟨e0, ds, r, hd, hl, e1⟩
  cases e0
  cases e1
  try trivial
  rw [q_mul200 (by simp)]
  try trivial
  rw [q_mul200 (by simp)]
  try trivial
  refine ⟨by rw [sz_eq]; omega, ?_⟩
  refine ⟨_, ?_, ?_, a, b, rfl⟩
  · intro d mm
    rw [List.mem_append] at mm
    rcases mm with mm | mm
    · exact hd d mm
    · rcases List.mem_cons.mp mm with rfl | mm
      · have r1 : Wb ((34 + 1) * 200) 2 (List.replicate 200 [PyData.tuple [.tuple [S [], .int ((200 : Nat) : Int)]]]).flatten := rep_V (fun d hd => by
          rw [List.mem_singleton.mp hd]
          exact (one_V (mvD_V (n := 0) a8n (Nat.le_refl _) (by omega))).mono (by omega) (by omega)) (by simp)
        have r2 : Wb ((0 + 1) * 200) 0 (List.replicate 200 [S []]).flatten := rep_V (fun d hd => by
          rw [List.mem_singleton.mp hd]
          exact st_V a8n (Nat.le_refl _)) (by simp)
        exact (mach_V (k := 3) (st_V (n := 1) a8a (by decide +kernel)) (st_V (n := 0) a8n (Nat.le_refl _)) r1.tup (r2.tup.mono (Nat.le_refl _) (by omega))).mono (by omega) (by omega)
      · rcases List.mem_cons.mp mm with rfl | mm
        · exact (mach_V (k := 3) (st_V (n := 1) a8a (by decide +kernel)) (st_V (n := 0) a8n (Nat.le_refl _)) (Wb.nil (n := 0)).tup (Wb.nil (n := 0)).tup).mono (by omega) (by omega)
        · rw [List.mem_singleton.mp mm]
          exact (mach_V (k := 3) (st_V (n := 0) a8n (Nat.le_refl _)) (st_V (n := 0) a8n (Nat.le_refl _)) (one_V (Wb.nil (n := 0) (k := 0)).tup |>.mono (Nat.le_refl _) (by omega)) ((one_V (st_V (k := 0) (n := 0) a8n (Nat.le_refl _))).mono (Nat.le_refl _) (by omega))).mono (by omega) (by omega)
  · simp only [List.length_append, List.length_cons, List.length_nil]; omega
end K20

namespace K20
open Ew PySem L2
variable {a b : Int} {sg l f w : Tx}
local macro_rules
  | `(tactic| trivial) => `(tactic| simp only [↓w_cstS, ↓w_cstT, ↓w_cstI, ↓w_cstB, ↓w_cstN, ↓w_vfK, ↓vfC_fz, ↓vfC_ow, ↓w_mvfK, ↓w_nilA, ↓w_consA, ↓w_consV, ↓w_op2, ↓w_opN, ↓w_asB, ↓w_andT, ↓w_orT, ↓w_notT, ↓w_ifE, ↓w_ofB, ↓w_andV, ↓w_orV, ↓w_notV, ↓w_tupD, ↓w_lstD, ↓w_isiF, ↓w_un1, ↓w_noP, ↓w_atP, ↓w_slF, ↓w_metF, ↓w_callP, ↓w_callK, ↓w_callN, ↓w_mutFK, ↓w_callMK, ↓w_chF, ↓w_skip, ↓w_seq, ↓w_expr, ↓w_ret, ↓w_if, ↓w_putK, ↓w_setK, ↓w_setOK, ↓w_asg, ↓w_nameG, ↓w_tupG, ↓w_consG, ↓w_nilG, ↓w_subGK, ↓w_nilM, ↓w_consMf, ↓w_consMo, ↓w_parS, ↓w_putL0, ↓w_putL, ↓w_itF, ↓w_enF, ↓w_zpF, ↓w_rg1, ↓w_rg2, ↓w_for, ↓w_forL0, ↓w_lcF, ↓w_lcL0, ↓w_yes, ↓w_leF, ↓w_dzF, ↓q_addI, ↓q_subI, ↓q_mulI, ↓q_powI, ↓q_divI, ↓q_modI, ↓q_negI, ↓q_ltI, ↓q_leI, ↓q_gtI, ↓q_geI, ↓q_ltS, ↓q_leI', ↓q_ltI', ↓q_bo, ↓q_io, ↓q_tu, ↓q_on1, ↓q_on2, ↓q_eqSE, ↓q_neSE, ↓q_eqIE, ↓q_neIE, ↓q_addS, ↓q_addT, ↓q_addL, ↓q_ixL, ↓q_ixT, ↓q_ixS, ↓is_at0, ↓is_at1, ↓is_at2, ↓is_at3, ↓is_at4, ↓is_at5, ↓q_lenL, ↓q_lenT, ↓q_lenS, ↓q_int, ↓q_abs, ↓q_max, ↓q_min, ↓q_dm, ↓q_tupL, ↓q_tupT, ↓q_tupS, ↓q_lisL, ↓q_lisT, ↓q_lisS, ↓q_all, ↓q_any, ↓q_items_L, ↓q_items_T, ↓q_items_S, ↓q_seq_L, ↓q_seq_T, ↓q_app, ↓q_in1E, ↓q_ni1E, ↓q_slS, ↓q_slT, ↓q_slL, ↓q_slLL, ↓q_joinL, ↓q_joinS, ↓mpOf_mp, ↓is_some, ↓is_get0, ↓is_getS, ↓setC_0, ↓setC_S, ↓q_keys, pick_10, ↓q_inKE, ↓q_ixK, ↓w_look, ↓val_fz, ↓val_ow, ↓val_mp, ↓redo_ow, ↓redo_mp, ↓q_rvS, ↓q_rvT, ↓q_rvL, ↓w_emD, ↓q_ext, ↓q_isN, ↓q_isntN, ↓w_isi2F, ↓w_lrF1, ↓w_lrF2,
      ok_mul, ok_div, ok_mod, ok_pow, ok_r, ixn_20, ixn_21, q_isTT, q_isTS, q_isSS, q_isST, q_isII, q_okS, q_okLi, enum_map, zip_map, rng_map, Int.cast_ofNat_Int, not_true_eq_false, not_false_eq_true, eq_self, decide_true, decide_false, lit_0, lit_1, lit_2, pOk_un, pOk_fz, pOk_ow, pOk_sl, isOw_ow, isOw_mp, List.getElem?_cons_zero, List.getElem?_cons_succ, List.set_cons_zero, List.set_cons_succ, wipeE, restE, okV, Option.getD_some, List.all_cons, List.all_nil, Bool.and_self, Bool.and_true, Bool.true_and, ↓reduceIte, reduceCtorEq, true_and, and_true, List.length_cons, List.length_nil, Nat.reduceAdd, Nat.reduceLeDiff, Nat.reduceEqDiff, Bool.false_eq_true, List.length_map, Bool.not_true, Bool.not_false, Bool.not_eq_true', decide_eq_true_eq, Bool.not_not, decide_eq_false_iff_not, List.cons_append, List.nil_append])
/-! drawn machines told -/
theorem txt_V {k n m : Nat} {t : Tx} (hg : SgOk sg) (h : TxtOk sg n t) (hn : n ≤ m) : Vd m k (S t) := Vd.str (fun c m => sg_V hg c (h.2 c m)) (Nat.le_trans h.1 hn)
theorem mc_V {m : Mc} (h : McOk m) : Vd 1300 4 m.enc := by
  have hg := h.sg
  have h5 := h.len
  have h6 := hg.2.1
  have vm : ∀ r ∈ m.rows, ∀ p ∈ r, Vd 34 1 (enM p) := fun r mr p mp => by
    have := h.mv r mr p mp
    exact Vs.tup (k := 0) (Vs.cons (n := 2) (m := 31) (txt_V hg this.1 (Nat.le_refl _)) (Vs.cons (n := 30) (m := 0) (Vd.int (by have := this.2; omega) (by omega)) Vs.nil (by omega)) (by omega))
  have vr : ∀ r ∈ m.rows, Vd 210 2 (enR r) := fun r mr => by
    have : Vs ((34 + 1) * 6) 1 (r.map enM) := Vs.of (fun d md => by
      obtain ⟨p, mp, rfl⟩ := List.mem_map.mp md
      exact vm r mr p mp) (by rw [List.length_map, h.row r mr]; exact h6)
    exact this.tup
  have v3 : Vs ((210 + 1) * 5) 2 (m.rows.map enR) := Vs.of (fun d md => by
    obtain ⟨r, mr, rfl⟩ := List.mem_map.mp md
    exact vr r mr) (by rw [List.length_map]; exact h5)
  have v4 : Vs ((2 + 1) * 5) 0 (m.ends.map S) := Vs.of (fun d md => by
    obtain ⟨t, mt, rfl⟩ := List.mem_map.mp md
    exact txt_V hg (h.en t mt) (Nat.le_refl _)) (by rw [List.length_map, h.el]; exact h5)
  unfold Mc.enc
  refine Vs.tup (k := 3) ?_
  refine Vs.cons (n := 7) (m := 1200) (Vd.str (by decide +kernel) (by decide +kernel)) ?_ (by omega)
  refine Vs.cons (n := 6) (m := 1150) (Vd.str (sg_V hg) h6) ?_ (by omega)
  refine Vs.cons (n := 2) (m := 1100) (txt_V hg h.fst (Nat.le_refl _)) ?_ (by omega)
  refine Vs.cons (n := 1055) (m := 16) v3.tup ?_ (by omega)
  exact Vs.cons (n := 15) (m := 0) (v4.tup.mono (Nat.le_refl _) (by omega)) Vs.nil (by omega)
theorem sg_ok (h : SgOk sg) : sgB (S sg) = true := by
  rw [sgB_S, ris_of h.2.2.1, decide_eq_true h.2.1, Bool.and_true, Bool.and_true]
  have e : sg.isEmpty = false := by
    have := h.ne
    cases sg <;> first | exact absurd rfl this | rfl
  rw [e, Bool.not_false, Bool.true_and, List.all_eq_true]
  exact fun c m => decide_eq_true (letters_mem (h.2.2.2 c m).1 (h.2.2.2 c m).2)
theorem tx_ok {n m : Nat} {t : Tx} (h : TxtOk sg n t) (hn : n ≤ m) : txB sg m (S t) = true := by
  rw [txB_S, decide_eq_true (Nat.le_trans h.1 hn), Bool.true_and, List.all_eq_true]
  exact fun c m => decide_eq_true (h.2 c m)
theorem mc_ok {m : Mc} (h : McOk m) : mcB m.enc = true := by
  have hg := h.sg
  have e3 : rwB m.signs.length (.tuple (m.rows.map enR)) = true := by
    rw [rwB_T, List.length_map, decide_eq_true h.pos, decide_eq_true (by have := h.len; omega), Bool.and_self, Bool.true_and, List.all_eq_true]
    intro d md
    obtain ⟨r, mr, rfl⟩ := List.mem_map.mp md
    exact decide_eq_true (by rw [List.length_map]; exact h.row r mr)
  have e4 : endB m.signs m.rows.length (.tuple (m.ends.map S)) = true := by
    rw [endB_T, List.length_map, decide_eq_true h.el, Bool.true_and, List.all_eq_true]
    intro d md
    obtain ⟨t, mt, rfl⟩ := List.mem_map.mp md
    exact tx_ok (h.en t mt) (by omega)
  have eb : badM m.signs m.rows.length (m.rows.map enR) = none := by
    rw [badM_iff, List.all_eq_true]
    intro d md
    obtain ⟨r, mr, rfl⟩ := List.mem_map.mp md
    show (r.map enM).all _ = true
    rw [List.all_eq_true]
    intro x mx
    obtain ⟨p, mp, rfl⟩ := List.mem_map.mp mx
    have := h.mv r mr p mp
    unfold enM
    rw [mvB_2, tx_ok this.1 (by omega), intB_I, decide_eq_true (by omega), decide_eq_true (by have := this.2; omega)]
    rfl
  unfold mcB Mc.enc
  rw [flaw_5]
  unfold flaw5
  rw [show eqS tMachine (S tMachine) = true by decide +kernel, if_pos rfl, sg_ok hg, if_pos rfl, show txt (S m.signs) = m.signs from rfl, tx_ok h.fst (by omega), if_pos rfl, e3, if_pos rfl, show itT (.tuple (m.rows.map enR)) = m.rows.map enR from rfl, List.length_map, eb, Option.getD_none]
  unfold flawE
  rw [show itT (.tuple (m.rows.map enR)) = m.rows.map enR from rfl, List.length_map, e4]
  rfl
def rowAt (m : Mc) (s : Nat) : List Mv := (m.rows[s]?).getD []
def mv (m : Mc) (s c : Nat) : Mv := ((rowAt m s)[m.signs.idxOf c]?).getD ([], 0)
theorem row_mem {m : Mc} {s : Nat} (hs : s < m.rows.length) : rowAt m s ∈ m.rows ∧ m.rows[s]? = some (rowAt m s) := by
  unfold rowAt
  rw [List.getElem?_eq_getElem hs]
  exact ⟨List.getElem_mem hs, rfl⟩
theorem mv_mem {m : Mc} (h : McOk m) {s c : Nat} (hs : s < m.rows.length) (hc : c ∈ m.signs) : mv m s c ∈ rowAt m s ∧ (rowAt m s)[m.signs.idxOf c]? = some (mv m s c) := by
  have hi : m.signs.idxOf c < (rowAt m s).length := by rw [h.row _ (row_mem hs).1]; exact List.idxOf_lt_length_of_mem hc
  unfold mv
  rw [List.getElem?_eq_getElem hi]
  exact ⟨List.getElem_mem hi, rfl⟩
theorem mv_ok {m : Mc} (h : McOk m) {s c : Nat} (hs : s < m.rows.length) (hc : c ∈ m.signs) : MvOk m.signs m.rows.length (mv m s c) := h.mv _ (row_mem hs).1 _ (mv_mem h hs hc).1
theorem q_row {m : Mc} {s : Nat} (hs : s < m.rows.length) {Q : D → Prop} : is (atI (m.rows.map enR) (s : Int)) Q ↔ Q (enR (rowAt m s)) := by
  rw [at_nat, List.getElem?_map, (row_mem hs).2]
  exact is_some
theorem q_mv {m : Mc} (h : McOk m) {s c : Nat} (hs : s < m.rows.length) (hc : c ∈ m.signs) {Q : D → Prop} : is (ap2 ixD [enR (rowAt m s), .int (m.signs.idxOf c : Nat)]) Q ↔ Q (enM (mv m s c)) := by
  unfold enR
  rw [q_ixT, at_nat, List.getElem?_map, (mv_mem h hs hc).2]
  exact is_some
structure Rn where
  t : List Tx
  p : List Nat
  e : Nat
def stp (m : Mc) (x : Rn) (c : Nat) : Rn := ⟨x.t ++ [(mv m x.e c).1], x.p ++ [x.e], (mv m x.e c).2⟩
def rnO (m : Mc) (b : Tx) : Rn := b.foldl (stp m) ⟨[], [], 0⟩
theorem run_snoc {m : Mc} {b : Tx} {c : Nat} : rnO m (b ++ [c]) = stp m (rnO m b) c := by unfold rnO; rw [List.foldl_append]; rfl
structure RnOk (m : Mc) (k : Nat) (x : Rn) : Prop where
  e : x.e < m.rows.length
  p : ∀ s ∈ x.p, s < m.rows.length
  pl : x.p.length = k
  tl : x.t.length = k
  t : ∀ t ∈ x.t, TxtOk m.signs 2 t
theorem run_ok' {m : Mc} (h : McOk m) : ∀ {b : Tx} {k : Nat} {x : Rn}, (∀ c ∈ b, c ∈ m.signs) → RnOk m k x → RnOk m (k + b.length) (b.foldl (stp m) x)
  | [], _, _, _, r => r
  | c :: b, k, x, hb, ih => by
    have ok := mv_ok h ih.e (hb c (by simp))
    rw [List.foldl_cons, show k + (c :: b).length = (k + 1) + b.length by rw [List.length_cons]; omega]
    refine run_ok' h (fun y my => hb y (List.mem_cons_of_mem _ my)) ⟨ok.2, ?_, ?_, ?_, ?_⟩
    · intro s ms
      rcases List.mem_append.mp ms with ms | ms
      · exact ih.p s ms
      · rw [List.mem_singleton.mp ms]; exact ih.e
    · show (x.p ++ [_]).length = _
      rw [List.length_append, ih.pl]; rfl
    · show (x.t ++ [_]).length = _
      rw [List.length_append, ih.tl]; rfl
    · intro t mt
      rcases List.mem_append.mp mt with mt | mt
      · exact ih.t t mt
      · rw [List.mem_singleton.mp mt]; exact ok.1
theorem run_ok {m : Mc} (h : McOk m) {b : Tx} (hb : ∀ c ∈ b, c ∈ m.signs) : RnOk m b.length (rnO m b) := by
  have := run_ok' h (k := 0) (x := ⟨[], [], 0⟩) hb ⟨h.pos, by simp, rfl, rfl, by simp⟩
  rwa [Nat.zero_add] at this
theorem flat_len {n : Nat} : ∀ {l : List Tx}, (∀ t ∈ l, t.length ≤ n) → l.flatten.length ≤ l.length * n
  | [], _ => by simp
  | t :: l, h => by
    have := flat_len (n := n) (l := l) (fun x m => h x (List.mem_cons_of_mem _ m))
    have h1 := h t (List.mem_cons_self ..)
    rw [List.flatten_cons, List.length_append, List.length_cons, Nat.succ_mul]
    omega
def stD (x : Rn) : List D := x.p.map (fun s => .int (s : Nat)) ++ [.int (x.e : Nat)]
theorem atI_last {α : Type} {xs : List α} {x : α} : atI (xs ++ [x]) (-1) = some x := at_last
def endAt (m : Mc) (s : Nat) : Tx := (m.ends[s]?).getD []
theorem q_end {m : Mc} (h : McOk m) {s : Nat} (hs : s < m.rows.length) {Q : D → Prop} : is (atI (m.ends.map S) (s : Int)) Q ↔ Q (S (endAt m s)) := by
  unfold endAt
  rw [at_nat, List.getElem?_map, List.getElem?_eq_getElem (by rw [h.el]; exact hs)]
  exact is_some
theorem end_ok {m : Mc} (h : McOk m) {s : Nat} (hs : s < m.rows.length) : TxtOk m.signs 2 (endAt m s) := by
  unfold endAt
  rw [List.getElem?_eq_getElem (by rw [h.el]; exact hs)]
  exact h.en _ (List.getElem_mem _)
def told (m : Mc) (w : Tx) : Tx := m.first ++ (rnO m w).t.flatten ++ endAt m (rnO m w).e
theorem want_machine_t {m : Mc} (h : McOk m) : F_want_machine [m.enc] = some .none := by
  refine is_eq (semP_of ?_)
  show is (G_want_machine [.fz _]) _
  unfold G_want_machine
  trivial
  rw [is_machine_any_d (vb (mc_V h)) (by omega), mc_ok h]
  trivial
theorem want_told_t {m : Mc} (h : McOk m) {w : Tx} (hw : TxtOk m.signs 60 w) : F_want_told [m.enc, S w] = some .none := by
  have e : F_is_word_of [S m.signs, S w] = some (.bool true) := by
    refine is_eq (semP_of ?_)
    show is (G_is_word_of [.fz _, .fz _]) _
    unfold G_is_word_of
    trivial
    rw [show F_is_text_of [S m.signs, S w, .int 60] = some (.bool (txB m.signs 60 (S w))) from is_text_of_d (m := 60) (vb (txt_V (k := 0) h.sg hw (Nat.le_refl _))) (by omega), tx_ok hw (Nat.le_refl _)]
    trivial
  refine is_eq (semP_of ?_)
  show is (G_want_told [.fz _, .fz _]) _
  unfold G_want_told Mc.enc
  trivial
  rw [e]
  trivial
theorem told_from_t {m : Mc} (h : McOk m) {w : Tx} (hw : TxtOk m.signs 60 w) : F_told_from [m.enc, .int 0, S w] = some (.tuple [S (rnO m w).t.flatten, .int ((rnO m w).e : Nat)]) := by
  have h6 := h.sg.2.1
  refine is_eq (semP_of ?_)
  show is (G_told_from [.fz _, .fz _, .fz _, .un, .un, .un, .un]) _
  unfold G_told_from
  rw [w_seq]
  refine is_mono (P := fun x => x = (.nx, [.fz m.enc, .fz (.int 0), .fz (S w), .fz (S m.signs), .ow (.list []), .un, .un])) (by unfold Mc.enc; trivial) ?_
  rintro _ rfl
  show is (seqS _ _ _) _
  trivial
  refine for_inv (fun b a W => b ++ a = w ∧ ∃ p q, W = [.fz m.enc, .fz (.int ((rnO m b).e : Nat)), .fz (S w), .fz (S m.signs), .ow (.list ((rnO m b).t.map S)), sl p, sl q]) (b := []) ⟨rfl, none, none, rfl⟩ ?_ ?_
  · rintro b c a _ ⟨hz, p, q, rfl⟩
    have hb : ∀ x ∈ b, x ∈ m.signs := fun x mx => hw.2 x (by rw [← hz]; exact List.mem_append_left _ mx)
    have hc : c ∈ m.signs := hw.2 c (by rw [← hz]; simp)
    have ok := run_ok h hb
    have hbl : b.length ≤ 60 := by have := congrArg List.length hz; rw [List.length_append] at this; have := hw.1; omega
    have htl := ok.tl
    unfold Mc.enc
    trivial
    rw [q_row ok.e]
    try trivial
    rw [q_six hc]
    try trivial
    rw [q_mv h ok.e hc]
    unfold enM
    try trivial
    refine ⟨by rw [sz_eq, htl]; omega, .inl True.intro, by rw [← hz]; simp, some (S1 c), some (S (mv m (rnO m b).e c).1), ?_⟩
    rw [run_snoc]
    unfold stp
    rw [List.map_append]
    rfl
  · rintro _ ⟨hz, p, q, rfl⟩
    rw [List.nil_append] at hz
    have ok := run_ok h hw.2
    have hf : (rnO m w).t.flatten.length ≤ 120 := Nat.le_trans (flat_len fun t mt => (ok.t t mt).1) (by rw [ok.tl]; have := hw.1; omega)
    simp only [List.nil_append]
    try trivial
    rw [sz_eq]
    omega
theorem tells_t {m : Mc} (h : McOk m) {w : Tx} (hw : TxtOk m.signs 60 w) : F_tells [m.enc, S w] = some (S (told m w)) := by
  have ok := run_ok h hw.2
  have hf : (rnO m w).t.flatten.length ≤ 120 := Nat.le_trans (flat_len fun t mt => (ok.t t mt).1) (by rw [ok.tl]; have := hw.1; omega)
  have h1 := h.fst.1
  have h2 := (end_ok h ok.e).1
  have e : F_told_of [m.enc, S w] = some (S (told m w)) := by
    refine is_eq (semP_of ?_)
    show is (G_told_of [.fz _, .fz _, .un, .un]) _
    unfold G_told_of
    trivial
    rw [told_from_t h hw]
    unfold Mc.enc
    trivial
    rw [q_end h ok.e]
    try trivial
    refine ⟨by rw [sz_eq]; omega, by rw [sz_eq, List.length_append]; omega, rfl⟩
  refine is_eq (semP_of ?_)
  show is (G_tells [.fz _, .fz _]) _
  unfold G_tells
  trivial
  rw [want_machine_t h]
  try trivial
  rw [want_told_t h hw]
  try trivial
  rw [e]
  try trivial
theorem course_t {m : Mc} (h : McOk m) {w : Tx} (hw : TxtOk m.signs 60 w) : F_course [m.enc, S w] = some (.list (stD (rnO m w))) := by
  have e : F_course_of [m.enc, S w] = some (.list (stD (rnO m w))) := by
    refine is_eq (semP_of ?_)
    show is (G_course_of [.fz _, .fz _, .un, .un]) _
    unfold G_course_of
    rw [w_seq]
    refine is_mono (P := fun x => x = (.nx, [.fz m.enc, .fz (S w), .ow (.list [.int 0]), .un])) (by trivial) ?_
    rintro _ rfl
    show is (seqS _ _ _) _
    trivial
    refine for_inv (fun b a W => b ++ a = w ∧ ∃ p, W = [.fz m.enc, .fz (S w), .ow (.list (stD (rnO m b))), sl p]) (b := []) ⟨rfl, none, rfl⟩ ?_ ?_
    · rintro b c a _ ⟨hz, p, rfl⟩
      have hb : ∀ x ∈ b, x ∈ m.signs := fun x mx => hw.2 x (by rw [← hz]; exact List.mem_append_left _ mx)
      have hc : c ∈ m.signs := hw.2 c (by rw [← hz]; simp)
      have ok := run_ok h hb
      have hbl : b.length ≤ 60 := by have := congrArg List.length hz; rw [List.length_append] at this; have := hw.1; omega
      have hpl := ok.pl
      unfold Mc.enc
      trivial
      unfold stD
      rw [atI_last, is_some]
      try trivial
      rw [q_row ok.e]
      try trivial
      rw [q_six hc]
      try trivial
      rw [q_mv h ok.e hc]
      unfold enM
      try trivial
      refine ⟨by rw [sz_eq, List.length_append, List.length_map, hpl]; simp only [List.length_cons, List.length_nil]; omega, .inl True.intro, by rw [← hz]; simp, some (S1 c), ?_⟩
      rw [run_snoc]
      unfold stp
      simp only [List.map_append, List.map_cons, List.map_nil]
      try rfl
    · rintro _ ⟨hz, p, rfl⟩
      rw [List.nil_append] at hz
      simp only [List.nil_append]
      trivial
  refine is_eq (semP_of ?_)
  show is (G_course [.fz _, .fz _]) _
  unfold G_course
  trivial
  rw [want_machine_t h]
  try trivial
  rw [want_told_t h hw]
  try trivial
  rw [e]
  try trivial
end K20

namespace K20
open Ew PySem L2
variable {a b : Int} {sg l f w : Tx}
local macro_rules
  | `(tactic| trivial) => `(tactic| simp only [↓w_cstS, ↓w_cstT, ↓w_cstI, ↓w_cstB, ↓w_cstN, ↓w_vfK, ↓vfC_fz, ↓vfC_ow, ↓w_mvfK, ↓w_nilA, ↓w_consA, ↓w_consV, ↓w_op2, ↓w_opN, ↓w_asB, ↓w_andT, ↓w_orT, ↓w_notT, ↓w_ifE, ↓w_ofB, ↓w_andV, ↓w_orV, ↓w_notV, ↓w_tupD, ↓w_lstD, ↓w_isiF, ↓w_un1, ↓w_noP, ↓w_atP, ↓w_slF, ↓w_metF, ↓w_callP, ↓w_callK, ↓w_callN, ↓w_mutFK, ↓w_callMK, ↓w_chF, ↓w_skip, ↓w_seq, ↓w_expr, ↓w_ret, ↓w_if, ↓w_putK, ↓w_setK, ↓w_setOK, ↓w_asg, ↓w_nameG, ↓w_tupG, ↓w_consG, ↓w_nilG, ↓w_subGK, ↓w_nilM, ↓w_consMf, ↓w_consMo, ↓w_parS, ↓w_putL0, ↓w_putL, ↓w_itF, ↓w_enF, ↓w_zpF, ↓w_rg1, ↓w_rg2, ↓w_for, ↓w_forL0, ↓w_lcF, ↓w_lcL0, ↓w_yes, ↓w_leF, ↓w_dzF, ↓q_addI, ↓q_subI, ↓q_mulI, ↓q_powI, ↓q_divI, ↓q_modI, ↓q_negI, ↓q_ltI, ↓q_leI, ↓q_gtI, ↓q_geI, ↓q_ltS, ↓q_leI', ↓q_ltI', ↓q_bo, ↓q_io, ↓q_tu, ↓q_on1, ↓q_on2, ↓q_eqSE, ↓q_neSE, ↓q_eqIE, ↓q_neIE, ↓q_addS, ↓q_addT, ↓q_addL, ↓q_ixL, ↓q_ixT, ↓q_ixS, ↓is_at0, ↓is_at1, ↓is_at2, ↓is_at3, ↓is_at4, ↓is_at5, ↓q_lenL, ↓q_lenT, ↓q_lenS, ↓q_int, ↓q_abs, ↓q_max, ↓q_min, ↓q_dm, ↓q_tupL, ↓q_tupT, ↓q_tupS, ↓q_lisL, ↓q_lisT, ↓q_lisS, ↓q_all, ↓q_any, ↓q_items_L, ↓q_items_T, ↓q_items_S, ↓q_seq_L, ↓q_seq_T, ↓q_app, ↓q_in1E, ↓q_ni1E, ↓q_slS, ↓q_slT, ↓q_slL, ↓q_slLL, ↓q_joinL, ↓q_joinS, ↓mpOf_mp, ↓is_some, ↓is_get0, ↓is_getS, ↓setC_0, ↓setC_S, ↓q_keys, pick_10, ↓q_inKE, ↓q_ixK, ↓w_look, ↓val_fz, ↓val_ow, ↓val_mp, ↓redo_ow, ↓redo_mp, ↓q_rvS, ↓q_rvT, ↓q_rvL, ↓w_emD, ↓q_ext, ↓q_isN, ↓q_isntN, ↓w_isi2F, ↓w_lrF1, ↓w_lrF2,
      ok_mul, ok_div, ok_mod, ok_pow, ok_r, ixn_20, ixn_21, q_isTT, q_isTS, q_isSS, q_isST, q_isII, q_okS, q_okLi, enum_map, zip_map, rng_map, Int.cast_ofNat_Int, not_true_eq_false, not_false_eq_true, eq_self, decide_true, decide_false, lit_0, lit_1, lit_2, pOk_un, pOk_fz, pOk_ow, pOk_sl, isOw_ow, isOw_mp, List.getElem?_cons_zero, List.getElem?_cons_succ, List.set_cons_zero, List.set_cons_succ, wipeE, restE, okV, Option.getD_some, List.all_cons, List.all_nil, Bool.and_self, Bool.and_true, Bool.true_and, ↓reduceIte, reduceCtorEq, true_and, and_true, List.length_cons, List.length_nil, Nat.reduceAdd, Nat.reduceLeDiff, Nat.reduceEqDiff, Bool.false_eq_true, List.length_map, Bool.not_true, Bool.not_false, Bool.not_eq_true', decide_eq_true_eq, Bool.not_not, decide_eq_false_iff_not, List.cons_append, List.nil_append])
theorem two_Vd {n k : Nat} {d : D} (h : Vd n k d) : Vd (2 * n + 2) (k + 1) (.list [d, d]) :=
  Vs.lst (Vs.cons (m := n + 1) h (Vs.cons (m := 0) h Vs.nil (by omega)) (by omega))
theorem st_good {m : Mc} (h : McOk m) {w : Tx} (hw : TxtOk m.signs 60 w) : Vd 1900 1 (.list (stD (rnO m w))) := by
  have ok := run_ok h hw.2
  have h5 := h.len
  have : Vs ((30 + 1) * 61) 0 (stD (rnO m w)) := Vs.of (fun d md => by
    unfold stD at md
    rcases List.mem_append.mp md with md | md
    · obtain ⟨s, ms, rfl⟩ := List.mem_map.mp md
      have := ok.p s ms
      exact Vd.int (by omega) (by omega)
    · rw [List.mem_singleton.mp md]
      have := ok.e
      exact Vd.int (by omega) (by omega)) (by unfold stD; rw [List.length_append, List.length_map, ok.pl]; simp only [List.length_cons, List.length_nil]; have := hw.1; omega)
  exact (this.lst).mono (by omega) (by omega)
theorem told_len {m : Mc} (h : McOk m) {w : Tx} (hw : TxtOk m.signs 60 w) : (told m w).length ≤ 124 ∧ ∀ c ∈ told m w, c ∈ m.signs := by
  have ok := run_ok h hw.2
  have hf : (rnO m w).t.flatten.length ≤ 120 := Nat.le_trans (flat_len fun t mt => (ok.t t mt).1) (by rw [ok.tl]; have := hw.1; omega)
  have h1 := h.fst
  have h2 := end_ok h ok.e
  unfold told
  refine ⟨by rw [List.length_append, List.length_append]; have := h1.1; have := h2.1; omega, fun c mc => ?_⟩
  rcases List.mem_append.mp mc with mc | mc
  · rcases List.mem_append.mp mc with mc | mc
    · exact h1.2 c mc
    · obtain ⟨t, mt, hc⟩ := List.mem_flatten.mp mc
      exact (ok.t t mt).2 c hc
  · exact h2.2 c mc
theorem told_right_t {m : Mc} (h : McOk m) {w : Tx} {z : D} (hw : TxtOk m.signs 60 w) : is (M__law_told_right z [m.enc, S w]) fun r => r = (.bool true, z) := by
  have ok := run_ok h hw.2
  have hw1 := hw.1
  have h1 := h.fst.1
  have htl := told_len h hw
  have g1 : goodE (.list [S (told m w), S (told m w)]) := (two_Vd (k := 0) (Vd.str (n := 124) (fun c mc => sg_V h.sg c (htl.2 c mc)) htl.1)).good (by omega) (by omega)
  have g2 : goodE (.list [.list (stD (rnO m w)), .list (stD (rnO m w))]) := (two_Vd (st_good h hw)).good (by omega) (by omega)
  have g3 : goodE (.list (stD (rnO m w))) := (st_good h hw).good (by omega) (by omega)
  have g4 : goodE (.list [m.enc, S w]) := by
    refine Vd.good (n := 1400) (k := 5) ?_ (by omega) (by omega)
    exact Vs.lst (Vs.cons (n := 1300) (m := 61) (mc_V h) (Vs.cons (n := 60) (m := 0) ((txt_V (k := 0) h.sg hw (Nat.le_refl _)).mono (Nat.le_refl _) (by omega)) Vs.nil (by omega)) (by omega))
  refine semM_of ?_
  show is (G__law_told_right [.mp _, .fz _, .fz _, .un, .un, .un, .un, .un, .un, .un]) _
  unfold G__law_told_right
  rw [w_seq]
  refine is_mono (P := fun x => x = (.nx, [.mp z, .fz m.enc, .fz (S w), .ow (.list [.int 0]), .fz (S m.first), .un, .un, .un, .un, .un])) (by unfold Mc.enc; trivial) ?_
  rintro _ rfl
  show is (seqS _ _ _) _
  rw [w_seq]
  refine is_mono (P := fun x => x.1 = .nx ∧ ∃ p q r, x.2 = [.mp z, .fz m.enc, .fz (S w), .ow (.list (stD (rnO m w))), .fz (S (m.first ++ (rnO m w).t.flatten)), sl p, sl q, sl r, .un, .un]) ?_ ?_
  · trivial
    refine for_inv (fun b a W => b ++ a = w ∧ ∃ p q r, W = [.mp z, .fz m.enc, .fz (S w), .ow (.list (stD (rnO m b))), .fz (S (m.first ++ (rnO m b).t.flatten)), sl p, sl q, sl r, .un, .un]) (b := []) ⟨rfl, none, none, none, ?_⟩ ?_ ?_
    · unfold rnO
      simp only [List.foldl_nil, List.flatten_nil, List.append_nil]
      rfl
    · rintro b c a _ ⟨hz, p, q, r, rfl⟩
      have hb : ∀ x ∈ b, x ∈ m.signs := fun x mx => hw.2 x (by rw [← hz]; exact List.mem_append_left _ mx)
      have hc : c ∈ m.signs := hw.2 c (by rw [← hz]; simp)
      have ok := run_ok h hb
      have hbl : b.length ≤ 60 := by have := congrArg List.length hz; rw [List.length_append] at this; omega
      have hpl := ok.pl
      have hf : (rnO m b).t.flatten.length ≤ 120 := Nat.le_trans (flat_len fun t mt => (ok.t t mt).1) (by rw [ok.tl]; omega)
      have hmv := (mv_ok h ok.e hc).1.1
      unfold Mc.enc
      trivial
      unfold stD
      rw [atI_last, is_some]
      try trivial
      rw [q_row ok.e]
      try trivial
      rw [q_six hc]
      try trivial
      rw [q_mv h ok.e hc]
      unfold enM
      try trivial
      refine ⟨by rw [sz_eq, List.length_append]; omega, by rw [sz_eq, List.length_append, List.length_map, hpl]; simp only [List.length_cons, List.length_nil]; omega, .inl True.intro, by rw [← hz]; simp, some (S1 c), some (S (mv m (rnO m b).e c).1), some (.int ((mv m (rnO m b).e c).2 : Nat)), ?_⟩
      rw [run_snoc]
      unfold stp
      simp only [List.map_append, List.map_cons, List.map_nil, List.flatten_append, List.flatten_cons, List.flatten_nil, List.append_nil, List.append_assoc]
      try rfl
    · rintro _ ⟨hz, p, q, r, rfl⟩
      rw [List.nil_append] at hz
      simp only [List.nil_append]
      first
        | exact ⟨p, q, r, rfl⟩
        | exact ⟨rfl, p, q, r, rfl⟩
        | exact ⟨True.intro, p, q, r, rfl⟩
  rintro ⟨fl, E⟩ ⟨e0, p, q, r, e1⟩
  cases e0
  cases e1
  have hf : (rnO m w).t.flatten.length ≤ 120 := Nat.le_trans (flat_len fun t mt => (ok.t t mt).1) (by rw [ok.tl]; omega)
  have h2 := (end_ok h ok.e).1
  show is (seqS _ _ _) _
  rw [w_seq]
  refine is_mono (P := fun x => x = (.nx, [.mp z, .fz m.enc, .fz (S w), .ow (.list (stD (rnO m w))), .fz (S (told m w)), sl p, sl q, sl r, .fz (S (shw (.list [m.enc, S w]))), .un])) ?_ ?_
  · unfold Mc.enc at g4 ⊢
    trivial
    unfold stD
    rw [atI_last, is_some]
    try trivial
    rw [q_end h ok.e]
    try trivial
    refine ⟨by rw [sz_eq, List.length_append]; omega, ?_⟩
    rw [q_rep g4]
    try trivial
    try rfl
  rintro _ rfl
  show is (seqS _ _ _) _
  rw [w_seq]
  refine is_mono (P := fun x => x = (.nx, [.mp z, .fz m.enc, .fz (S w), .ow (.list (stD (rnO m w))), .fz (S (told m w)), sl p, sl q, sl r, .fz (S (shw (.list [m.enc, S w]))), .un])) ?_ ?_
  · trivial
    rw [tells_t h hw]
    try trivial
    rw [q_rep g1]
    try trivial
    rw [q_rep g1]
    try trivial
  rintro _ rfl
  show is (seqS _ _ _) _
  rw [w_seq]
  refine is_mono (P := fun x => x = (.nx, [.mp z, .fz m.enc, .fz (S w), .ow (.list (stD (rnO m w))), .fz (S (told m w)), sl p, sl q, sl r, .fz (S (shw (.list [m.enc, S w]))), .ow (.list (stD (rnO m w)))])) (by trivial; rw [course_t h hw]; trivial) ?_
  rintro _ rfl
  show is (seqS _ _ _) _
  rw [w_seq]
  refine is_mono (P := fun x => x = (.nx, [.mp z, .fz m.enc, .fz (S w), .ow (.list (stD (rnO m w))), .fz (S (told m w)), sl p, sl q, sl r, .fz (S (shw (.list [m.enc, S w]))), .ow (.list (stD (rnO m w)))])) ?_ ?_
  · trivial
    rw [w_mkL]
    try trivial
    rw [course_t h hw]
    try trivial
    rw [q_rep g2]
    try trivial
    rw [w_mkL]
    try trivial
    rw [q_rep g2]
    try trivial
  rintro _ rfl
  have hsl : (stD (rnO m w)).length ≤ 100 := by unfold stD; rw [List.length_append, List.length_map, ok.pl]; simp only [List.length_cons, List.length_nil]; omega
  show is (seqS _ _ _) _
  rw [w_seq]
  refine is_mono (P := fun x => ∃ d, x = (.nx, [.mp z, .fz m.enc, .fz (S w), .ow (.list (stD (rnO m w))), .fz (S (told m w)), sl p, sl q, sl r, .fz (S (shw (.list [m.enc, S w]))), .ow d])) (by trivial; exact ⟨by rw [sz_eq]; omega, _, rfl⟩) ?_
  rintro _ ⟨d, rfl⟩
  show is (retS _ _) _
  trivial
  rw [course_t h hw]
  try trivial
  rw [q_rep g3]
  try trivial
  rw [q_rep g3]
  try trivial
  rw [q_rep g4]
  try trivial
end K20

namespace K20
open Ew PySem L2
variable {a b : Int} {sg l f w : Tx}
local macro_rules
  | `(tactic| trivial) => `(tactic| simp only [↓w_cstS, ↓w_cstT, ↓w_cstI, ↓w_cstB, ↓w_cstN, ↓w_vfK, ↓vfC_fz, ↓vfC_ow, ↓w_mvfK, ↓w_nilA, ↓w_consA, ↓w_consV, ↓w_op2, ↓w_opN, ↓w_asB, ↓w_andT, ↓w_orT, ↓w_notT, ↓w_ifE, ↓w_ofB, ↓w_andV, ↓w_orV, ↓w_notV, ↓w_tupD, ↓w_lstD, ↓w_isiF, ↓w_un1, ↓w_noP, ↓w_atP, ↓w_slF, ↓w_metF, ↓w_callP, ↓w_callK, ↓w_callN, ↓w_mutFK, ↓w_callMK, ↓w_chF, ↓w_skip, ↓w_seq, ↓w_expr, ↓w_ret, ↓w_if, ↓w_putK, ↓w_setK, ↓w_setOK, ↓w_asg, ↓w_nameG, ↓w_tupG, ↓w_consG, ↓w_nilG, ↓w_subGK, ↓w_nilM, ↓w_consMf, ↓w_consMo, ↓w_parS, ↓w_putL0, ↓w_putL, ↓w_itF, ↓w_enF, ↓w_zpF, ↓w_rg1, ↓w_rg2, ↓w_for, ↓w_forL0, ↓w_lcF, ↓w_lcL0, ↓w_yes, ↓w_leF, ↓w_dzF, ↓q_addI, ↓q_subI, ↓q_mulI, ↓q_powI, ↓q_divI, ↓q_modI, ↓q_negI, ↓q_ltI, ↓q_leI, ↓q_gtI, ↓q_geI, ↓q_ltS, ↓q_leI', ↓q_ltI', ↓q_bo, ↓q_io, ↓q_tu, ↓q_on1, ↓q_on2, ↓q_eqSE, ↓q_neSE, ↓q_eqIE, ↓q_neIE, ↓q_addS, ↓q_addT, ↓q_addL, ↓q_ixL, ↓q_ixT, ↓q_ixS, ↓is_at0, ↓is_at1, ↓is_at2, ↓is_at3, ↓is_at4, ↓is_at5, ↓q_lenL, ↓q_lenT, ↓q_lenS, ↓q_int, ↓q_abs, ↓q_max, ↓q_min, ↓q_dm, ↓q_tupL, ↓q_tupT, ↓q_tupS, ↓q_lisL, ↓q_lisT, ↓q_lisS, ↓q_all, ↓q_any, ↓q_items_L, ↓q_items_T, ↓q_items_S, ↓q_seq_L, ↓q_seq_T, ↓q_app, ↓q_in1E, ↓q_ni1E, ↓q_slS, ↓q_slT, ↓q_slL, ↓q_slLL, ↓q_joinL, ↓q_joinS, ↓mpOf_mp, ↓is_some, ↓is_get0, ↓is_getS, ↓setC_0, ↓setC_S, ↓q_keys, pick_10, ↓q_inKE, ↓q_ixK, ↓w_look, ↓val_fz, ↓val_ow, ↓val_mp, ↓redo_ow, ↓redo_mp, ↓q_rvS, ↓q_rvT, ↓q_rvL, ↓w_emD, ↓q_ext, ↓q_isN, ↓q_isntN, ↓w_isi2F, ↓w_lrF1, ↓w_lrF2,
      ok_mul, ok_div, ok_mod, ok_pow, ok_r, ixn_20, ixn_21, q_isTT, q_isTS, q_isSS, q_isST, q_isII, q_okS, q_okLi, enum_map, zip_map, rng_map, Int.cast_ofNat_Int, not_true_eq_false, not_false_eq_true, eq_self, decide_true, decide_false, lit_0, lit_1, lit_2, pOk_un, pOk_fz, pOk_ow, pOk_sl, isOw_ow, isOw_mp, List.getElem?_cons_zero, List.getElem?_cons_succ, List.set_cons_zero, List.set_cons_succ, wipeE, restE, okV, Option.getD_some, List.all_cons, List.all_nil, Bool.and_self, Bool.and_true, Bool.true_and, ↓reduceIte, reduceCtorEq, true_and, and_true, List.length_cons, List.length_nil, Nat.reduceAdd, Nat.reduceLeDiff, Nat.reduceEqDiff, Bool.false_eq_true, List.length_map, Bool.not_true, Bool.not_false, Bool.not_eq_true', decide_eq_true_eq, Bool.not_not, decide_eq_false_iff_not, List.cons_append, List.nil_append])
theorem want_bool {p : Bool} {Q : D → Prop} : is (ap2 isntD [.bool p, .bool true]) Q ↔ Q (.bool (!decide (p = true))) := is_iff rfl
def RtQ (d : D) : Prop := ∃ n k, Vb n k d ∧ n ≤ 500000 ∧ k ≤ 60
theorem right_t : is (M__law_right (pl a b) []) fun r => r.1 = .bool true := by
  refine semM_of ?_
  show is (G__law_right [.mp _, .un, .un, .un, .un, .un, .un]) _
  unfold G__law_right
  rw [w_seq]
  refine is_mono (P := fun x => ∃ (m : Mc) (a b : Int), McOk m ∧ x = (.nx, [.mp (pl a b), .fz m.enc, .un, .un, .un, .un, .un])) ?_ ?_
  · trivial
    refine is_mono machine_t ?_
    rintro _ ⟨m, hm, a, b, rfl⟩
    trivial
    exact ⟨m, a, b, hm, rfl⟩
  rintro _ ⟨m, a, b, hm, rfl⟩
  have vm := mc_V hm
  have hg := hm.sg
  show is (seqS _ _ _) _
  rw [w_seq]
  refine is_mono (P := fun x => ∃ ds : List D, (∀ d ∈ ds, RtQ d) ∧ ds.length = 10 ∧ x = (.nx, [.mp (pl a b), .fz m.enc, .fz (.list ds), .un, .un, .un, .un])) ?_ ?_
  · have vm' := vm
    unfold Mc.enc at vm' ⊢
    have vs := (wb vm'.untup.2)
    have s0 : Vb 7 3 (S ("Machine" : Str).cps.toList) := Vb.str (by decide +kernel) (by decide +kernel)
    have s1 : Vb 7 3 (S tMachine) := Vb.str (by decide +kernel) (by decide +kernel)
    trivial
    rw [cutT_to (by decide), cutT_from (by decide)]
    try trivial
    refine ⟨by rw [sz_eq]; decide, by rw [sz_eq]; simp, _, ?_, ?_, rfl⟩
    · intro d md
      simp only [List.mem_cons, List.not_mem_nil, or_false] at md
      rcases md with rfl | rfl | rfl | rfl | rfl | rfl | rfl | rfl | rfl | rfl
      · exact ⟨1300, 4, vb vm', by omega, by omega⟩
      · exact ⟨_, _, vs.lst, by omega, by omega⟩
      · exact ⟨_, _, (vs.take 4).tup, by omega, by omega⟩
      · exact ⟨_, _, (Wb.app vs (Wb.cons (n := 30) (m := 0) (Vb.int (i := 0) (by decide) (by omega)) Wb.nil (Nat.le_refl _)) (Nat.le_refl _)).tup, by omega, by omega⟩
      · exact ⟨_, _, (Wb.cons s0 (vs.drop 1) (Nat.le_refl _)).tup, by omega, by omega⟩
      · exact ⟨0, 0, Vb.none, by omega, by omega⟩
      · exact ⟨30, 0, Vb.int (by decide) (by omega), by omega, by omega⟩
      · exact ⟨_, _, s1, by omega, by omega⟩
      · exact ⟨0, 1, Wb.nil.tup, by omega, by omega⟩
      · exact ⟨0, 1, Vb.emp, by omega, by omega⟩
    · rfl
  rintro _ ⟨ds, hd, hl, rfl⟩
  show is (seqS _ _ _) _
  rw [w_seq]
  refine is_mono (P := fun x => ∃ (ds : List D) (a b : Int), (∀ d ∈ ds, RtQ d) ∧ ds.length ≤ 47 ∧ x = (.nx, [.mp (pl a b), .fz m.enc, .fz (.list ds), .un, .un, .un, .un])) ?_ ?_
  · trivial
    refine is_mono edges_t ?_
    rintro _ ⟨es, he, hel, a, b, rfl⟩
    try trivial
    refine ⟨by rw [sz_eq]; omega, ?_⟩
    try trivial
    refine ⟨by omega, by simp, ?_⟩
    refine lc_inv (en := id) (fun W => ∃ a b, W = [.mp (pl a b), .fz m.enc, .fz (.list ds), .un, .un, .un, .un]) (fun _ d => RtQ d) ⟨_, _, rfl⟩ ?_ ?_
    · rintro k - _ ⟨a, b, rfl⟩
      trivial
      refine is_mono (bent_t (n := 1300) (k := 4) (by omega) (by omega) vm) ?_
      rintro _ ⟨d', hd', a', b', rfl⟩
      trivial
      exact ⟨d', rfl, ⟨_, _, hd', by omega, by omega⟩, _, _, rfl⟩
    · rintro bs _ hbl hbp ⟨a, b, rfl⟩
      try trivial
      have hbl' : bs.length = 24 := by simpa using hbl
      rw [List.map_id]
      refine ⟨by rw [sz_eq, List.length_append]; omega, _, a, b, ?_, ?_, rfl⟩
      · intro d md
        rcases List.mem_append.mp md with md | md
        · rcases List.mem_append.mp md with md | md
          · exact hd d md
          · exact ⟨_, _, he d md, by omega, by omega⟩
        · obtain ⟨_, _, q⟩ := hbp d md
          exact q
      · rw [List.length_append, List.length_append]; omega
  rintro _ ⟨ds, a, b, hd, hl, rfl⟩
  show is (seqS _ _ _) _
  rw [w_seq]
  refine is_mono (P := fun x => x = (.nx, [.mp (pl a b), .fz m.enc, .fz (.list ds), .un, .un, .un, .un])) ?_ ?_
  · trivial
    refine ⟨by omega, ?_⟩
    refine lc_map1 (fun _ => .bool true) (fun x mx => ?_) ?_
    · obtain ⟨n, k, hv, hn, hk⟩ := hd x mx
      trivial
      rw [law_value_t hv hn hk]
      trivial
    · trivial
      rw [show (ds.all fun _ => true) = true by rw [List.all_eq_true]; intros; rfl]
      try trivial
      rw [is_machine_d (vb vm) (by omega), mc_ok hm]
      try trivial
      rw [want_bool]
      try trivial
  rintro _ rfl
  show is (seqS _ _ _) _
  rw [w_seq]
  refine is_mono (P := fun x => ∃ (ws : List Tx) (a b : Int), (∀ w ∈ ws, TxtOk m.signs 60 w) ∧ ws.length = 4 ∧ x = (.nx, [.mp (pl a b), .fz m.enc, .fz (.list ds), .fz (.list (ws.map S)), .un, .un, .un])) ?_ ?_
  · have h6 := hg.2.1
    have hp := hg.1
    unfold Mc.enc
    trivial
    refine is_mono (string_t (n := 12) (by omega) hg.ne (by omega)) ?_
    rintro _ ⟨w1, hw1, a1, b1, rfl⟩
    obtain ⟨pre, c, hpc⟩ : ∃ pre c, m.signs = pre ++ [c] := by
      rcases List.eq_nil_or_concat m.signs with z | ⟨p, c, z⟩
      · exact absurd z hg.ne
      · exact ⟨p, c, by simpa using z⟩
    have hc : c ∈ m.signs := by rw [hpc]; simp
    try trivial
    have e1 : atI m.signs (-1) = some c := by rw [hpc]; exact atI_last
    rw [e1]
    try trivial
    unfold S1
    rw [show ∀ Q : D → Prop, is (ap2 mulD [S [c], .int 60]) Q ↔ Q (S (List.replicate 60 [c]).flatten) from fun Q => q_mulSl 60 rfl (by omega) (by simp)]
    try trivial
    refine ⟨by rw [sz_eq]; omega, ?_⟩
    refine is_mono (string_t (n := 60) (by omega) hg.ne (by omega)) ?_
    rintro _ ⟨w2, hw2, a2, b2, rfl⟩
    try trivial
    refine ⟨[[], w1, (List.replicate 60 [c]).flatten, w2], a2, b2, ?_, rfl, rfl⟩
    intro w mw
    simp only [List.mem_cons, List.not_mem_nil, or_false] at mw
    rcases mw with rfl | rfl | rfl | rfl
    · exact ⟨by simp, by simp⟩
    · exact hw1.mono (by omega)
    · exact ⟨by rw [rep_len]; simp, fun x mx => by rw [List.mem_singleton.mp (rep_mem mx)]; exact hc⟩
    · exact hw2
  rintro _ ⟨ws, a, b, hws, hl4, rfl⟩
  show is (retS _ _) _
  trivial
  refine ⟨by omega, ?_⟩
  refine lc_map (fun _ => .bool true) (fun w mw => ?_) ?_
  · trivial
    refine is_mono (told_right_t hm (hws w mw)) ?_
    rintro _ rfl
    trivial
  · trivial
    rw [show (ws.all fun _ => true) = true by rw [List.all_eq_true]; intros; rfl]
theorem pot_t {ns : List Int} {k : Nat} : is (F__law_pot [.list (ns.map PyData.int), .int (k : Nat)]) fun d => ∃ a b, d = pl a b := by
  refine semP_of ?_
  show is (G__law_pot [.fz _, .fz _, .un]) _
  unfold G__law_pot
  rw [w_seq]
  refine is_mono (P := fun x => ∃ i : Int, x = (.nx, [.fz (.list (ns.map PyData.int)), .fz (.int (k : Nat)), .fz (.int i)])) ?_ ?_
  · trivial
    split
    · rename_i h
      rw [at_nat, List.getElem?_map, List.getElem?_eq_getElem (by omega)]
      refine ⟨_, rfl, ?_⟩
      trivial
      exact ⟨_, rfl⟩
    · refine ⟨.inl (by omega), ?_⟩
      exact ⟨_, rfl⟩
  rintro _ ⟨i, rfl⟩
  show is (retS _ _) _
  trivial
  refine ⟨by decide, by omega, ?_⟩
  exact ⟨.inr ⟨by decide, by decide⟩, .inl ⟨by decide, by decide⟩, by decide, _, _, rfl⟩
theorem plain (ns : List Int) (h : ns.length ≤ 63) : F_law [.list (ns.map PySem.PyData.int)] = some (.bool true) := by
  refine is_eq (semP_of ?_)
  show is (G_law [.fz _, .un]) _
  unfold G_law
  trivial
  refine ⟨⟨by (repeat' split) <;> omega, by (repeat' split) <;> omega⟩, by simp; (repeat' split) <;> omega, ?_⟩
  refine lc_map (fun k : Nat => .bool true) (fun k m => ?_) ?_
  · trivial
    refine is_mono pot_t ?_
    rintro _ ⟨a, b, rfl⟩
    refine is_mono right_t ?_
    intro r hr
    rw [hr]
  · trivial
    rw [show ((List.range _).all fun _ => true) = true by rw [List.all_eq_true]; intros; rfl]
end K20

open PySem PySem.W PySem.Calls PyProof.Rows
theorem PySem.Challenge.cw_elderwords_k20_any_value_as_machine_holds : PySem.Challenge.rw_elderwords_k20_any_value_as_machine.Holds := by
  w_on; o_law
  refine HandSHeadRun.head_any (r := K20.Rr) (q := K20.qv) (H := K20.hk) (ob := K20.ob) (M := 4000) (loose := K20.loose) (d := HandSHeadRun.topDef K20.Rr.prog 48) (kwd := []) K20.ob_eq
    (by kernel_rfl) (fun s => by kernel_rfl) K20.run (by kernel_rfl) (by kernel_rfl) (by kernel_rfl) (by rfl) (by first | assumption | decide +kernel) (by decide +kernel) ⟨rfl, rfl, rfl, rfl, rfl, by decide +kernel⟩ ?hw ?hc
  case hw => w_witness2
  case hc =>
    refine Ew.walk_g (l := PySem.Challenge.rw_elderwords_k20_any_value_as_machine) (n := 63) (k := 13) (x := "script") rfl (by decide) (by kernel_rfl) ⟨⟨rfl, by decide, by decide⟩, rfl⟩ ?_
    rintro w mg fa h ⟨K, KX, c⟩ G hmg0
    have hmg : mg ("law" : PySem.Str) = some (.ref fa) := by
      have e : (HandSHeadRun.topDef K20.Rr.prog 48).name = ("law" : PySem.Str) := by kernel_rfl
      rw [← e]
      exact hmg0
    obtain ⟨fd, hb, hF⟩ := K20.facts (P := (PySem.Challenge.rw_elderwords_k20_any_value_as_machine).prog) (w := w) KX G hmg c
    refine ⟨K, fd, _, KX, hb, fun H a ns hl hO hS => ?_, hF⟩
    refine ⟨rfl, fun _ => False, [.list (ns.map PyData.int)], .bool true, .cons (.scr hS (Ew.fz_ints ns)) .nil, fun _ z => z.elim, K20.plain ns hl, fun v F' H' _ r => Ew.fz_bool r⟩

