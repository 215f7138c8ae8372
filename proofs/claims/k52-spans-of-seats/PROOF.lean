import PyProof.Rows.All
import Wide.All
import OpenK.AllK
import Wide.FinOn
import HandS.ForMost
import HandS.Exc
import HandS.TryOnly
import HandS.WordsExc
import HandS.Lambda
import HandS.Wide
import HandS.IsInst
import HandS.Walk
import HandS.Zip
import HandS.Flow
import HandS.CallSlots
import HandS.HeadHook2
import HandS.More
import KE.KDictList
import HandS.SortKw
import HandS.Conv
import HandS.WordsDict
import PyProof.Rows.SortWalk
import PyProof.ListRange
import HandS.TupAny
import HandS.TupMul
import HandS.TupLe
import HandS.SortInts
import HandS.Deep
import HandS.RaiseMore
import PyProof.EqKinds
import PyProof.FactsAll.dict_1
import KE.KSortedM
import HandS.TupSets
import KE.GoesMore
import KE.GoesEnum
import KE.DataFind
import HandS.DictComp
import HandS.Style
import HandS.Star
import KE.KExcSuper
import KE.KExcInit
import HandS.ExcOwn
import HandS.TryMany
import HandS.ExcField
import HandS.Dict
import HandS.Defaults
import HandS.Ends
import HandS.HeadEnd
import HandS.HeadHook4
import HandS.EndTab
import KE.KStateDown
import HandS.Head0
import HandS.Head1
import HandS.Head2
import HandS.Head3
import HandS.HeadHook1
import PySem.Challenge.RW_seatsdue_k52_whole_spans_of_seats
set_option Elab.async false
set_option linter.all false
set_option maxRecDepth 100000
namespace PL
open PySem PySem.Spec PyProof.Rows L2

/-- plain data -/
inductive D where
  | non
  | bl (b : Bool)
  | int (i : Int)
  | str (s : Str)
  | fn (x : Str)
  | tup (xs : List D)
  | lst (xs : List D)
  | rol (xs : List D)
  | dct (kvs : List (D × D))

/-- what the walk knows of the module -/
structure Gx where
  K : PySem.W.Frag
  mg : Str → Option Value
  fld : Str → Str
  T : List (Addr × Str)
  cs : List (Addr × Addr)

abbrev Pr := Addr → Prop

def keyD : Key → D
  | .inl i => .int i
  | .inr x => .str x

/-- an object of the module's own top -/
def WrT (K : PySem.W.Frag) (a : Addr) (xs : List V) : Prop := ∃ (o : Obj) (its : Array Value) (n : Nat), K.lookup a = some o ∧ o.cls = .type "tuple" ∧ o.data = .seq its n ∧ its.size ≤ sizeLine ∧ Vals xs its.toList
def WrL (K : PySem.W.Frag) (a : Addr) (xs : List V) : Prop := ∃ (o : Obj) (its : Array Value) (n : Nat), K.lookup a = some o ∧ o.cls = .type "list" ∧ o.dict = none ∧ o.data = .seq its n ∧ its.size ≤ sizeLine ∧ Vals xs its.toList
mutual
inductive Rp (G : Gx) (S : Pr) (H : Hp) : D → V → Prop
  | non : Rp G S H .non .non
  | bl (b : Bool) : Rp G S H (.bl b) (.bl b)
  | int (i : Int) : Rp G S H (.int i) (.int i)
  | str (x : Str) : Rp G S H (.str x) (.str x)
  | fn {x : Str} {f : Addr} : G.mg x = some (.ref f) → Rp G S H (.fn x) (.ref f)
  | tup {a : Addr} {ds : List D} {vs : List V} : S a ∨ WrT G.K a vs → SqT G.K H a vs → RpL G S H ds vs → Rp G S H (.tup ds) (.ref a)
  | lst {a : Addr} {ds : List D} {vs : List V} : S a → H a = some (.lst vs) → RpL G S H ds vs → Rp G S H (.lst ds) (.ref a)
  | rol {a : Addr} {ds : List D} {vs : List V} : S a ∨ WrL G.K a vs → SqL G.K H a vs → RpL G S H ds vs → Rp G S H (.rol ds) (.ref a)
  | dct {a : Addr} {ds : List (D × D)} {kvs : List (Key × V)} : S a → H a = some (.dK kvs) → RpD G S H ds kvs → Rp G S H (.dct ds) (.ref a)
inductive RpL (G : Gx) (S : Pr) (H : Hp) : List D → List V → Prop
  | nil : RpL G S H [] []
  | cons {d : D} {ds : List D} {v : V} {vs : List V} : Rp G S H d v → RpL G S H ds vs → RpL G S H (d :: ds) (v :: vs)
inductive RpD (G : Gx) (S : Pr) (H : Hp) : List (D × D) → List (Key × V) → Prop
  | nil : RpD G S H [] []
  | cons {k : Key} {d : D} {ds : List (D × D)} {v : V} {vs : List (Key × V)} : Rp G S H d v → RpD G S H ds vs → RpD G S H ((keyD k, d) :: ds) ((k, v) :: vs)
end

/-- from S, H to S', H': all that is tracked stands but what is in Wr -/
structure Ext (Wr S : Pr) (H : Hp) (S' : Pr) (H' : Hp) : Prop where
  keep : ∀ a o, H a = some o → ¬ Wr a → (∀ ps, o ≠ .tbl ps) → H' a = some o
  there : ∀ a, H a ≠ none → H' a ≠ none
  sub : ∀ a, S a → S' a
  new : ∀ a, S' a → S a ∨ H a = none ∨ Wr a

section
variable {G : Gx} {Wr S S' : Pr} {H H' : Hp}
theorem seqT_keep {a : Addr} {vs : List V} (k : ∀ o, H a = some o → H' a = some o) (h : SqT G.K H a vs) : SqT G.K H' a vs := by
  rcases h with (h | ⟨o, h⟩) | h
  · exact .inl (.inl (k _ h))
  · exact .inl (.inr ⟨o, k _ h⟩)
  · exact .inr h
theorem seqL_keep {a : Addr} {vs : List V} (k : ∀ o, H a = some o → H' a = some o) (h : SqL G.K H a vs) : SqL G.K H' a vs := by
  rcases h with (h | ⟨o, h⟩) | h
  · exact .inl (.inl (k _ h))
  · exact .inl (.inr ⟨o, k _ h⟩)
  · exact .inr h
mutual
theorem Rp.keep (k : ∀ a, S a → S' a ∧ ∀ o, H a = some o → H' a = some o) : ∀ {d : D} {v : V}, Rp G S H d v → Rp G S' H' d v
  | _, _, .non => .non
  | _, _, .bl b => .bl b
  | _, _, .int i => .int i
  | _, _, .str x => .str x
  | _, _, .fn h => .fn h
  | _, _, .tup (.inl s) q l => .tup (.inl (k _ s).1) (seqT_keep (k _ s).2 q) (RpL.keep k l)
  | _, _, .tup (.inr s) _ l => .tup (.inr s) (.inr s) (RpL.keep k l)
  | _, _, .lst s q l => .lst (k _ s).1 ((k _ s).2 _ q) (RpL.keep k l)
  | _, _, .rol (.inl s) q l => .rol (.inl (k _ s).1) (seqL_keep (k _ s).2 q) (RpL.keep k l)
  | _, _, .rol (.inr s) _ l => .rol (.inr s) (.inr s) (RpL.keep k l)
  | _, _, .dct s q l => .dct (k _ s).1 ((k _ s).2 _ q) (RpD.keep k l)
theorem RpL.keep (k : ∀ a, S a → S' a ∧ ∀ o, H a = some o → H' a = some o) : ∀ {ds : List D} {vs : List V}, RpL G S H ds vs → RpL G S' H' ds vs
  | _, _, .nil => .nil
  | _, _, .cons h t => .cons (Rp.keep k h) (RpL.keep k t)
theorem RpD.keep (k : ∀ a, S a → S' a ∧ ∀ o, H a = some o → H' a = some o) : ∀ {ds : List (D × D)} {vs : List (Key × V)}, RpD G S H ds vs → RpD G S' H' ds vs
  | _, _, .nil => .nil
  | _, _, .cons h t => .cons (Rp.keep k h) (RpD.keep k t)
end
theorem RpL.length : ∀ {ds : List D} {vs : List V}, RpL G S H ds vs → vs.length = ds.length
  | _, _, .nil => rfl
  | _, _, .cons _ t => congrArg Nat.succ (RpL.length t)
theorem RpL.append : ∀ {ds es : List D} {vs us : List V}, RpL G S H ds vs → RpL G S H es us → RpL G S H (ds ++ es) (vs ++ us)
  | _, _, _, _, .nil, h => h
  | _, _, _, _, .cons h t, r => .cons h (RpL.append t r)
theorem RpL.get : ∀ {ds : List D} {vs : List V} {i : Nat} {d : D}, RpL G S H ds vs → ds[i]? = some d → ∃ v, vs[i]? = some v ∧ Rp G S H d v
  | _, _, _, _, .nil, e => by simp at e
  | _, _, 0, _, .cons h _, e => by simp at e; subst e; exact ⟨_, rfl, h⟩
  | _, _, i + 1, _, .cons _ t, e => by
    obtain ⟨v, h1, h2⟩ := RpL.get (i := i) t (by simpa using e)
    exact ⟨v, by simpa using h1, h2⟩
theorem RpL.get' : ∀ {ds : List D} {vs : List V} {i : Nat} {v : V}, RpL G S H ds vs → vs[i]? = some v → ∃ d, ds[i]? = some d ∧ Rp G S H d v
  | _, _, _, _, .nil, e => by simp at e
  | _, _, 0, _, .cons h _, e => by simp at e; subst e; exact ⟨_, rfl, h⟩
  | _, _, i + 1, _, .cons _ t, e => by
    obtain ⟨v, h1, h2⟩ := RpL.get' (i := i) t (by simpa using e)
    exact ⟨v, by simpa using h1, h2⟩
theorem RpL.set {d : D} {v : V} (r : Rp G S H d v) : ∀ {ds : List D} {vs : List V} (i : Nat), RpL G S H ds vs → RpL G S H (ds.set i d) (vs.set i v)
  | _, _, _, .nil => .nil
  | _, _, 0, .cons _ t => .cons r t
  | _, _, i + 1, .cons q t => .cons q (RpL.set r i t)
theorem RpL.take : ∀ {ds : List D} {vs : List V} (n : Nat), RpL G S H ds vs → RpL G S H (ds.take n) (vs.take n)
  | _, _, 0, _ => .nil
  | _, _, _ + 1, .nil => .nil
  | _, _, n + 1, .cons h t => .cons h (RpL.take n t)
theorem RpL.drop : ∀ {ds : List D} {vs : List V} (n : Nat), RpL G S H ds vs → RpL G S H (ds.drop n) (vs.drop n)
  | _, _, 0, h => h
  | _, _, _ + 1, .nil => .nil
  | _, _, n + 1, .cons _ t => RpL.drop n t
theorem RpL.eraseIdx : ∀ {ds : List D} {vs : List V} (n : Nat), RpL G S H ds vs → RpL G S H (ds.eraseIdx n) (vs.eraseIdx n)
  | _, _, _, .nil => .nil
  | _, _, 0, .cons _ t => t
  | _, _, n + 1, .cons h t => .cons h (RpL.eraseIdx n t)
end

/-! ### environments -/
inductive SV where
  | none
  | val (d : D)
  | own (io : Bool) (xs : List D)
abbrev Env := List SV

def Own (env : Env) (σ : L2.St) : Pr := fun a => ∃ (i : Nat) (io : Bool) (xs : List D), env[i]? = some (.own io xs) ∧ σ[i]? = some (some (.ref a))

/-- what stays through a body: where the in-out parameters stand, the heap at its entry -/
structure Zx where
  P0 : Nat → Option Addr
  H0 : Hp

/-- no table, no code object of a lambda -/
def NT (o : HO) : Prop := (∀ ps, o ≠ .tbl ps) ∧ ∀ c q, o ≠ LamX.CodeO c q
theorem nt_lst {xs : List V} : NT (.lst xs) := ⟨fun _ z => (by cases z), fun c q z => (by unfold LamX.CodeO at z; cases z)⟩
theorem tabs_upd {T : List (Addr × Str)} {H : Hp} {a : Addr} {ob : HO} (n : ∀ o, H a = some o → NT o) (t : LamX.Tabs T H) : LamX.Tabs T (upd H a ob) := fun p hp => by
  obtain ⟨ps, h1, h2, h3⟩ := t p hp
  refine ⟨ps, by rw [upd_ne (fun z => by rw [z] at h1; exact (n _ h1).1 _ rfl)]; exact h1, h2, fun pos cv hc => ?_⟩
  obtain ⟨c, e1, e2⟩ := h3 pos cv hc
  exact ⟨c, e1, by rw [upd_ne (fun z => by rw [z] at e2; exact (n _ e2).2 _ _ rfl)]; exact e2⟩

structure Ok (G : Gx) (Z : Zx) (S : Pr) (H : Hp) (env : Env) (σ : L2.St) : Prop where
  tb : LamX.Tabs G.T H
  nt : ∀ a : Addr, S a → ∀ ps, H a ≠ some (.tbl ps)
  tr : ∀ a : Addr, S a → H a ≠ none
  old : ∀ a : Addr, Z.H0 a ≠ none → H a ≠ none
  len : σ.length = env.length
  val : ∀ (i : Nat) (d : D), env[i]? = some (.val d) → ∃ v, σ[i]? = some (some v) ∧ Rp G S H d v
  own : ∀ (i : Nat) (io : Bool) (xs : List D), env[i]? = some (.own io xs) → ∃ a vs, σ[i]? = some (some (.ref a)) ∧ H a = some (.lst vs) ∧ ¬ S a ∧ RpL G S H xs vs
  inj : ∀ (i j : Nat) (io : Bool) (xs : List D) (io' : Bool) (ys : List D) (a : Addr), env[i]? = some (.own io xs) → env[j]? = some (.own io' ys) → σ[i]? = some (some (.ref a)) → σ[j]? = some (some (.ref a)) → i = j
  io : ∀ (i : Nat) (xs : List D) (a : Addr), env[i]? = some (.own true xs) → σ[i]? = some (some (.ref a)) → Z.P0 i = some a
  fr : ∀ (i : Nat) (xs : List D) (a : Addr), env[i]? = some (.own false xs) → σ[i]? = some (some (.ref a)) → Z.H0 a = none

structure Tr (G : Gx) (Z : Zx) (S : Pr) (H : Hp) (env : Env) (σ : L2.St) (S' : Pr) (H' : Hp) (env' : Env) (σ' : L2.St) : Prop where
  ext : Ext (Own env σ) S H S' H'
  ok : Ok G Z S' H' env' σ'
  sub : ∀ a, Own env' σ' a → Own env σ a ∨ H a = none

section
variable {G : Gx} {Z : Zx} {S S1 S2 : Pr} {H H1 H2 : Hp} {env env1 env2 : Env} {σ σ1 σ2 : L2.St}
theorem Ok.notS (o : Ok G Z S H env σ) {a : Addr} (h : Own env σ a) : ¬ S a ∧ H a ≠ none := by
  obtain ⟨i, io, xs, h1, h2⟩ := h
  obtain ⟨a', vs, e1, e2, e3, _⟩ := o.own i io xs h1
  rw [h2] at e1; cases e1
  exact ⟨e3, by rw [e2]; simp⟩
theorem Tr.refl (o : Ok G Z S H env σ) : Tr G Z S H env σ S H env σ := ⟨⟨fun _ _ e _ _ => e, fun _ e => e, fun _ e => e, fun _ e => .inl e⟩, o, fun _ e => .inl e⟩
theorem Tr.trans (a : Tr G Z S H env σ S1 H1 env1 σ1) (b : Tr G Z S1 H1 env1 σ1 S2 H2 env2 σ2) : Tr G Z S H env σ S2 H2 env2 σ2 where
  ext := {
    keep := fun c o e n nt => b.ext.keep c o (a.ext.keep c o e n nt) (fun z => by
      rcases a.sub c z with z | z
      · exact n z
      · rw [e] at z; cases z) nt
    there := fun c e => b.ext.there c (a.ext.there c e)
    sub := fun c e => b.ext.sub c (a.ext.sub c e)
    new := fun c e => by
      rcases b.ext.new c e with z | z | z
      · exact a.ext.new c z
      · cases q : H c with
        | none => exact .inr (.inl rfl)
        | some o => exact absurd z (a.ext.there c (by rw [q]; simp))
      · rcases a.sub c z with z | z
        · exact .inr (.inr z)
        · exact .inr (.inl z) }
  ok := b.ok
  sub := fun c e => by
    rcases b.sub c e with z | z
    · exact a.sub c z
    · cases q : H c with
      | none => exact .inr rfl
      | some o => exact absurd z (a.ext.there c (by rw [q]; simp))
theorem Tr.keepS (o : Ok G Z S H env σ) (t : Tr G Z S H env σ S1 H1 env1 σ1) : ∀ a, S a → S1 a ∧ ∀ ob, H a = some ob → H1 a = some ob :=
  fun a s => ⟨t.ext.sub a s, fun ob e => t.ext.keep a ob e (fun z => (o.notS z).1 s) fun ps z => o.nt a s ps (by rw [e, z])⟩
theorem Tr.rp {d : D} {v : V} (o : Ok G Z S H env σ) (t : Tr G Z S H env σ S1 H1 env1 σ1) (h : Rp G S H d v) : Rp G S1 H1 d v := h.keep (t.keepS o)
theorem Tr.rpl {d : List D} {v : List V} (o : Ok G Z S H env σ) (t : Tr G Z S H env σ S1 H1 env1 σ1) (h : RpL G S H d v) : RpL G S1 H1 d v := h.keep (t.keepS o)
/-- the heap grows by one new object, which is known from now on or not -/
theorem Tr.alloc {p : Addr} {ob : HO} (o : Ok G Z S H env σ) (hp : H p = none) (b : Prop) (hS : ¬ S p ∨ b) (hob : ∀ ps, ob ≠ .tbl ps) : Tr G Z S H env σ (fun a => S a ∨ (b ∧ a = p)) (upd H p ob) env σ := by
  have k : ∀ a o, H a = some o → upd H p ob a = some o := fun a o' e => by rw [upd_ne (ne_of_none e hp)]; exact e
  have kk : ∀ a, S a → (S a ∨ (b ∧ a = p)) ∧ ∀ ob', H a = some ob' → upd H p ob a = some ob' := fun a s => ⟨.inl s, fun ob' e => k a ob' e⟩
  refine ⟨⟨fun a o e _ _ => k a o e, fun a e => ?_, fun a e => .inl e, fun a e => ?_⟩, ⟨o.tb.ext k, fun a e ps z => ?_, fun a e => ?_, fun a e => ?_, o.len, fun i d e => ?_, fun i io xs e => ?_, o.inj, o.io, o.fr⟩, fun a e => .inl e⟩
  · cases q : H a with
    | none => exact absurd q e
    | some ob' => rw [k a ob' q]; simp
  · rcases e with e | ⟨_, e⟩
    · exact .inl e
    · subst e; exact .inr (.inl hp)
  · rcases e with e | ⟨_, e⟩
    · cases q : H a with
      | none => exact absurd q (o.tr a e)
      | some ob' => rw [k a ob' q] at z; cases z; exact o.nt a e ps q
    · subst e; rw [upd_same] at z; exact hob ps (Option.some.inj z)
  · rcases e with e | ⟨_, e⟩
    · cases q : H a with
      | none => exact absurd q (o.tr a e)
      | some ob' => rw [k a ob' q]; simp
    · subst e; rw [upd_same]; simp
  · cases q : H a with
    | none => exact absurd q (o.old a e)
    | some ob' => rw [k a ob' q]; simp
  · obtain ⟨v, h1, h2⟩ := o.val i d e
    exact ⟨v, h1, h2.keep kk⟩
  · obtain ⟨a, vs, h1, h2, h3, h4⟩ := o.own i io xs e
    refine ⟨a, vs, h1, k a _ h2, fun z => ?_, h4.keep kk⟩
    rcases z with z | ⟨_, z⟩
    · exact h3 z
    · subst z; rw [h2] at hp; cases hp
end
end PL

namespace PL
open PySem PySem.Spec PyProof.Rows L2

/-! ### outcomes -/
structure Ex where
  cls : Str
  val : Option D
inductive R (α : Type) where
  | ok (a : α) (e : Env)
  | exc (x : Ex) (e : Env)
  | stuck
abbrev M (α : Type) := Env → R α
def R.bind {α β : Type} (r : R α) (g : α → M β) : R β := match r with
  | .ok a e => g a e
  | .exc x e => .exc x e
  | .stuck => .stuck
def bnd {α β : Type} (f : M α) (g : α → M β) : M β := fun e => (f e).bind g
def ret {α : Type} (a : α) : M α := fun e => .ok a e
def lif {α : Type} (o : Option α) : M α := fun e => match o with
  | some a => .ok a e
  | none => .stuck

def ExRp (G : Gx) (S : Pr) (H : Hp) (x : Ex) (cls : Value) (dd : Option Addr) : Prop :=
  ∃ C : Addr, G.mg x.cls = some (.ref C) ∧ cls = .ref C ∧ match x.val with
    | none => dd = none
    | some d => ∃ (a : Addr) (v : V), dd = some a ∧ S a ∧ H a = some (.xd [(G.fld x.cls, v)]) ∧ Rp G S H d v

section
variable {G : Gx} {Z : Zx} {W : WX}
def Post {α : Type} (G : Gx) (Z : Zx) (W : WX) (r : R α) (S : Pr) (H : Hp) (env : Env) (σ : L2.St) (K : α → Pr → Hp → Env → Prop) : Prop := match r with
  | .ok a env' => ∀ S' H', Tr G Z S H env σ S' H' env' σ → K a S' H' env'
  | .exc x env' => ∀ S' H' cls dd, Tr G Z S H env σ S' H' env' σ → ExRp G S' H' x cls dd → W cls dd σ H'
  | .stuck => False
theorem Post.mono {α : Type} {r : R α} {S : Pr} {H : Hp} {env : Env} {σ : L2.St} {K K' : α → Pr → Hp → Env → Prop} (h : Post G Z W r S H env σ K)
    (k : ∀ a S' H' env', Tr G Z S H env σ S' H' env' σ → K a S' H' env' → K' a S' H' env') : Post G Z W r S H env σ K' := by
  cases r with
  | ok a e => exact fun S' H' t => k _ _ _ _ t (h S' H' t)
  | exc x e => exact h
  | stuck => exact h
theorem Post.from {α : Type} {r : R α} {S S1 : Pr} {H H1 : Hp} {env env1 : Env} {σ : L2.St} {K : α → Pr → Hp → Env → Prop} (h : Post G Z W r S H env σ K) (t : Tr G Z S H env σ S1 H1 env1 σ) : Post G Z W r S1 H1 env1 σ K := by
  cases r with
  | ok a e => exact fun S' H' t' => h S' H' (t.trans t')
  | exc x e => exact fun S' H' c d t' => h S' H' c d (t.trans t')
  | stuck => exact h
theorem Post.bind {α β : Type} {r : R α} {g : α → M β} {S : Pr} {H : Hp} {env : Env} {σ : L2.St} {K : β → Pr → Hp → Env → Prop} (h : Post G Z W (r.bind g) S H env σ K) :
    Post G Z W r S H env σ fun a S1 H1 env1 => Post G Z W (g a env1) S1 H1 env1 σ K := by
  cases r with
  | ok a e => exact fun S' H' t => Post.from h t
  | exc x e => exact h
  | stuck => exact h

abbrev KQ (G : Gx) (Q : VK) : D → Pr → Hp → Env → Prop := fun d S' H' _ => ∀ v, Rp G S' H' d v → Q v H'
def tOf (G : Gx) (Z : Zx) (W : WX) (f : M D) : TE := fun σ H Q => ∃ S env, Ok G Z S H env σ ∧ Post G Z W (f env) S H env σ (KQ G Q)
def tOfT (G : Gx) (Z : Zx) (W : WX) (f : M Bool) : TT := fun σ H Q => ∃ S env, Ok G Z S H env σ ∧ Post G Z W (f env) S H env σ (fun b _ H' _ => Q b H')
def tOfA (G : Gx) (Z : Zx) (W : WX) (f : M (List D)) : TA := fun σ H Q => ∃ S env, Ok G Z S H env σ ∧ Post G Z W (f env) S H env σ (fun ds S' H' _ => ∀ vs, RpL G S' H' ds vs → Q vs H')
/-- a fresh list -/
def tOfF (G : Gx) (Z : Zx) (W : WX) (f : M (List D)) : TE := fun σ H Q => ∃ S env, Ok G Z S H env σ ∧ Post G Z W (f env) S H env σ (fun ds S' H' env' => ∀ a vs, H' a = some (.lst vs) → ¬ S' a → ¬ Own env' σ a → H a = none → RpL G S' H' ds vs → Q (.ref a) H')

theorem pe_imp {X : Cx} {e : Expr} {t t' : TE} (h : PE X e t) (k : ∀ σ H Q, t' σ H Q → t σ H Q) : PE X e t' := ⟨fun pins s σ H Q I h' => h.run pins s σ H Q I (k _ _ _ h')⟩
theorem pt_imp {X : Cx} {e : Expr} {t t' : TT} (h : PT X e t) (k : ∀ σ H Q, t' σ H Q → t σ H Q) : PT X e t' := ⟨fun pins s σ H Q I h' => h.run pins s σ H Q I (k _ _ _ h')⟩
theorem pa_imp {X : Cx} {e : List Expr} {t t' : TA} (h : PA X e t) (k : ∀ σ H Q, t' σ H Q → t σ H Q) : PA X e t' := ⟨fun pos pins s σ H Q I h' => h.run pos pins s σ H Q I (k _ _ _ h')⟩
theorem ps_imp {X : Cx} {e : Stmt} {t t' : TS} (h : PS X e t) (k : ∀ D σ H, t' D σ H → t D σ H) : PS X e t' := ⟨fun pins s σ H D I h' => h.run pins s σ H D I (k _ _ _ h')⟩
theorem pss_imp {X : Cx} {e : List Stmt} {t t' : TS} (h : PSs X e t) (k : ∀ D σ H, t' D σ H → t D σ H) : PSs X e t' := ⟨fun pins s σ H D I h' => h.run pins s σ H D I (k _ _ _ h')⟩

theorem tOf.go {f : M D} {S : Pr} {H : Hp} {env : Env} {σ : L2.St} {K : D → Pr → Hp → Env → Prop} {Q : VK} (o : Ok G Z S H env σ) (h : Post G Z W (f env) S H env σ K)
    (k : ∀ d S' H' env' v, Tr G Z S H env σ S' H' env' σ → Rp G S' H' d v → K d S' H' env' → Q v H') : tOf G Z W f σ H Q :=
  ⟨S, env, o, h.mono fun d S' H' env' t q v r => k d S' H' env' v t r q⟩
theorem tOfT.go {f : M Bool} {S : Pr} {H : Hp} {env : Env} {σ : L2.St} {K : Bool → Pr → Hp → Env → Prop} {Q : Bool → Hp → Prop} (o : Ok G Z S H env σ) (h : Post G Z W (f env) S H env σ K)
    (k : ∀ d S' H' env', Tr G Z S H env σ S' H' env' σ → K d S' H' env' → Q d H') : tOfT G Z W f σ H Q :=
  ⟨S, env, o, h.mono fun d S' H' env' t q => k d S' H' env' t q⟩
theorem tOfA.go {f : M (List D)} {S : Pr} {H : Hp} {env : Env} {σ : L2.St} {K : List D → Pr → Hp → Env → Prop} {Q : List V → Hp → Prop} (o : Ok G Z S H env σ) (h : Post G Z W (f env) S H env σ K)
    (k : ∀ d S' H' env' v, Tr G Z S H env σ S' H' env' σ → RpL G S' H' d v → K d S' H' env' → Q v H') : tOfA G Z W f σ H Q :=
  ⟨S, env, o, h.mono fun d S' H' env' t q v r => k d S' H' env' v t r q⟩

/-! ### the context -/
structure XOk (X : Cx) (N : List Str) (sc : Scope) (G : Gx) (k : Nat) : Prop where
  N : X.N = N
  sc : X.env.scope = sc
  nd : X.N.Nodup
  calm : X.calm = true
  K : X.K = G.K
  mg : X.mg = G.mg
  room : Room k X.A
  guards : X.A.guards = some []

/-! ### leaves -/
section
variable {X : Cx} {e a b c : Expr} {pos : Pos} {N : List Str} {sc : Scope} {k : Nat} {S S' : Pr} {H H' : Hp} {env env' : Env} {σ : L2.St} {Q : VK} {d : D}

def eC (d : D) : M D := ret d
theorem se_c {v : V} (h : PE X e (tC v)) (r : ∀ S H, Rp G S H d v) : PE X e (tOf G Z W (eC d)) :=
  pe_imp h fun σ H Q ⟨S, env, o, q⟩ => q S H (Tr.refl o) v (r S H)

def eVar (i : Nat) : M D := fun env => match env[i]? with
  | some (.val d) => .ok d env
  | some (.own _ xs) => .ok (.lst xs) (env.set i (.val (.lst xs)))
  | _ => .stuck

theorem own_set {env : Env} {i : Nat} {d : D} {σ : L2.St} {a : Addr} (h : Own (env.set i (.val d)) σ a) : Own env σ a ∧ ∃ j io xs, j ≠ i ∧ env[j]? = some (.own io xs) ∧ σ[j]? = some (some (.ref a)) := by
  obtain ⟨j, io, xs, h1, h2⟩ := h
  have hne : j ≠ i := fun z => by
    subst z
    by_cases hl : j < env.length
    · rw [List.getElem?_set_self hl] at h1; cases h1
    · rw [List.getElem?_eq_none (by simpa using hl)] at h1; cases h1
  rw [List.getElem?_set_ne (Ne.symm hne)] at h1
  exact ⟨⟨j, io, xs, h1, h2⟩, j, io, xs, hne, h1, h2⟩

/-- an own list is known from now on -/
theorem Tr.freeze {i : Nat} {io : Bool} {xs : List D} {a : Addr} (o : Ok G Z S H env σ) (he : env[i]? = some (.own io xs)) (hs : σ[i]? = some (some (.ref a))) :
    Tr G Z S H env σ (fun b => S b ∨ b = a) H (env.set i (.val (.lst xs))) σ := by
  obtain ⟨a', vs, e1, e2, e3, e4⟩ := o.own i io xs he
  rw [hs] at e1; cases e1
  have kk : ∀ b, S b → (S b ∨ b = a) ∧ ∀ ob, H b = some ob → H b = some ob := fun b s => ⟨.inl s, fun _ e => e⟩
  have hi : i < env.length := (List.getElem?_eq_some_iff.mp he).1
  have ne : ∀ {j : Nat} {v : SV}, (env.set i (.val (.lst xs)))[j]? = some v → j ≠ i → env[j]? = some v := fun {j v} h hn => by
    rw [List.getElem?_set_ne (Ne.symm hn)] at h; exact h
  have nown : ∀ {j : Nat} {io : Bool} {ys : List D}, (env.set i (.val (.lst xs)))[j]? = some (.own io ys) → j ≠ i := fun {j io ys} h z => by
    subst z; rw [List.getElem?_set_self hi] at h; cases h
  refine ⟨⟨fun _ _ e _ _ => e, fun _ e => e, fun b e => .inl e, fun b e => ?_⟩, ⟨o.tb, fun b e ps => e.elim (fun e => o.nt b e ps) fun z => by subst z; rw [e2]; simp, fun b e => e.elim (o.tr b) fun z => by subst z; rw [e2]; simp, o.old, by simpa using o.len, fun j d e => ?_, fun j io' ys e => ?_, fun j l io1 ys io2 zs b h1 h2 h3 h4 => ?_, fun j ys b h1 h2 => o.io j ys b (ne h1 (nown h1)) h2, fun j ys b h1 h2 => o.fr j ys b (ne h1 (nown h1)) h2⟩, fun b e => .inl (own_set e).1⟩
  · rcases e with e | e
    · exact .inl e
    · subst e; exact .inr (.inr ⟨i, io, xs, he, hs⟩)
  · by_cases hj : j = i
    · subst hj
      rw [List.getElem?_set_self hi] at e; cases e
      exact ⟨_, hs, .lst (.inr rfl) e2 (e4.keep kk)⟩
    · obtain ⟨v, h1, h2⟩ := o.val j d (ne e hj)
      exact ⟨v, h1, h2.keep kk⟩
  · have hj := nown e
    obtain ⟨b, ws, f1, f2, f3, f4⟩ := o.own j io' ys (ne e hj)
    refine ⟨b, ws, f1, f2, fun z => ?_, f4.keep kk⟩
    rcases z with z | z
    · exact f3 z
    · subst z
      exact hj (o.inj j i io' ys io xs b (ne e hj) he f1 hs)
  · exact o.inj j l io1 ys io2 zs b (ne h1 (nown h1)) (ne h2 (nown h2)) h3 h4

theorem se_var {i : Nat} (h : PE X e (tVar i)) : PE X e (tOf G Z W (eVar i)) :=
  pe_imp h fun σ H Q ⟨S, env, o, q⟩ => by
    unfold eVar at q
    split at q
    · rename_i d e
      obtain ⟨v, h1, h2⟩ := o.val i d e
      exact ⟨v, h1, q S H (Tr.refl o) v h2⟩
    · rename_i io xs e
      obtain ⟨a, vs, e1, e2, e3, e4⟩ := o.own i io xs e
      have t := Tr.freeze o e e1
      exact ⟨_, e1, q _ H t _ (.lst (.inr rfl) e2 (t.rpl o e4))⟩
    · exact q.elim

/-! ### operators -/
/-- nothing tracked is changed -/
def Pu (H H' : Hp) : Prop := ∀ a o, H a = some o → H' a = some o

def eOp (g : D → D → Option D) (fa fb : M D) : M D := bnd fa fun a => bnd fb fun b => lif (g a b)
/-- the pure rule of an operation on data -/
def OpD (G : Gx) (g : D → D → Option D) (r : R2) : Prop :=
  ∀ (Z : Zx) (S : Pr) (H : Hp) (env : Env) (σ : L2.St) (a b d : D) (x y : V) (Q : VK), Ok G Z S H env σ → Rp G S H a x → Rp G S H b y → g a b = some d →
    (∀ S' H', Tr G Z S H env σ S' H' env σ → Pu H H' → ∀ v, Rp G S' H' d v → Q v H') → r x y H Q
theorem lif_post {α : Type} {o : Option α} {K : α → Pr → Hp → Env → Prop} (h : Post G Z W (lif o env) S H env σ K) : ∃ a, o = some a ∧ ∀ S' H', Tr G Z S H env σ S' H' env σ → K a S' H' env := by
  unfold lif at h
  cases o with
  | none => exact h.elim
  | some a => exact ⟨a, rfl, h⟩
theorem tOp_of {g : D → D → Option D} {r : R2} {fa fb : M D} (hr : OpD G g r) (h : tOf G Z W (eOp g fa fb) σ H Q) : tOp r (tOf G Z W fa) (tOf G Z W fb) σ H Q := by
  obtain ⟨S, env, o, q⟩ := h
  refine tOf.go o (Post.bind q) fun da S1 H1 env1 x t1 rx q1 => ?_
  refine tOf.go t1.ok (Post.bind q1) fun db S2 H2 env2 y t2 ry q2 => ?_
  obtain ⟨d, e, k⟩ := lif_post q2
  exact hr Z S2 H2 env2 σ da db d x y Q t2.ok (t2.rp t1.ok rx) ry e fun S' H' t _ => k S' H' t
theorem se_op {op : Operator} {g : D → D → Option D} {r : R2} {fa fb : M D} (ho : OpR X (binaryOp op) r) (hr : OpD G g r) (ha : PE X a (tOf G Z W fa)) (hb : PE X b (tOf G Z W fb)) : PE X (.BinOp a op b pos) (tOf G Z W (eOp g fa fb)) :=
  pe_imp (pe_op ho ha hb) fun σ H Q h => tOp_of hr h
theorem se_cmp {op : CmpOp} {g : D → D → Option D} {r : R2} {fa fb : M D} (ho : OpR X (compareOp op) r) (hr : OpD G g r) (ha : PE X a (tOf G Z W fa)) (hb : PE X b (tOf G Z W fb)) (hm : behindInMarks op b = false) :
    PE X (.Compare a [op] [b] pos) (tOf G Z W (eOp g fa fb)) := pe_imp (pe_cmpR ho ha hb hm) fun σ H Q h => tOp_of hr h
theorem se_ix {g : D → D → Option D} {r : R2} {fa fb : M D} (ho : IxR X r) (hr : OpD G g r) (ha : PE X a (tOf G Z W fa)) (hb : PE X b (tOf G Z W fb)) (hs : PlainIx b) : PE X (.Subscript a b pos) (tOf G Z W (eOp g fa fb)) :=
  pe_imp (pe_ix ho ha hb hs) fun σ H Q h => tOp_of hr h
def eUn (g : D → Option D) (fa : M D) : M D := bnd fa fun a => lif (g a)
def UnD (G : Gx) (g : D → Option D) (r : V → Hp → VK → Prop) : Prop :=
  ∀ (Z : Zx) (S : Pr) (H : Hp) (env : Env) (σ : L2.St) (a d : D) (x : V) (Q : VK), Ok G Z S H env σ → Rp G S H a x → g a = some d →
    (∀ S' H', Tr G Z S H env σ S' H' env σ → Pu H H' → ∀ v, Rp G S' H' d v → Q v H') → r x H Q
theorem tUn_of {g : D → Option D} {r : V → Hp → VK → Prop} {fa : M D} (hr : UnD G g r) (h : tOf G Z W (eUn g fa) σ H Q) : tUn r (tOf G Z W fa) σ H Q := by
  obtain ⟨S, env, o, q⟩ := h
  refine tOf.go o (Post.bind q) fun da S1 H1 env1 x t1 rx q1 => ?_
  obtain ⟨d, e, k⟩ := lif_post q1
  exact hr Z S1 H1 env1 σ da d x Q t1.ok rx e fun S' H' t _ => k S' H' t
theorem se_un {op : UnaryOp} {g : D → Option D} {r : V → Hp → VK → Prop} {fa : M D} (ho : UnR X (unaryOp op) r) (hr : UnD G g r) (ha : PE X a (tOf G Z W fa)) : PE X (.UnaryOp op a pos) (tOf G Z W (eUn g fa)) :=
  pe_imp (pe_un ho ha) fun σ H Q h => tUn_of hr h

/-! ### arguments -/
def eNil : M (List D) := ret []
def eCons (f : M D) (g : M (List D)) : M (List D) := bnd f fun a => bnd g fun as => ret (a :: as)
theorem sa_nil : PA X [] (tOfA G Z W eNil) := pa_imp pa_nil fun σ H Q ⟨S, env, o, q⟩ => q S H (Tr.refl o) [] .nil
theorem sa_cons {es : List Expr} {f : M D} {g : M (List D)} (h : PE X e (tOf G Z W f)) (t : PA X es (tOfA G Z W g)) (hs : starEach (e :: es) X.env = (false, eval e X.env) :: starEach es X.env) : PA X (e :: es) (tOfA G Z W (eCons f g)) :=
  pa_imp (pa_cons h t hs) fun σ H Q ⟨S, env, o, q⟩ => by
    refine tOf.go o (Post.bind q) fun da S1 H1 env1 x t1 rx q1 => ?_
    refine tOfA.go t1.ok (Post.bind q1) fun db S2 H2 env2 y t2 ry q2 => ?_
    exact q2 S2 H2 (Tr.refl t2.ok) _ (.cons (t2.rp t1.ok rx) ry)
/-- a call of a built-in by data -/
def eFn (g : List D → Option D) (fa : M (List D)) : M D := bnd fa fun a => lif (g a)
def CallD (G : Gx) (g : List D → Option D) (r : List V → Hp → VK → Prop) : Prop :=
  ∀ (Z : Zx) (S : Pr) (H : Hp) (env : Env) (σ : L2.St) (as : List D) (d : D) (xs : List V) (Q : VK), Ok G Z S H env σ → RpL G S H as xs → g as = some d →
    (∀ S' H', Tr G Z S H env σ S' H' env σ → Pu H H' → ∀ v, Rp G S' H' d v → Q v H') → r xs H Q
theorem tCB_of {g : List D → Option D} {r : List V → Hp → VK → Prop} {fa : M (List D)} (hr : CallD G g r) (h : tOf G Z W (eFn g fa) σ H Q) : tCB r (tOfA G Z W fa) σ H Q := by
  obtain ⟨S, env, o, q⟩ := h
  refine tOfA.go o (Post.bind q) fun da S1 H1 env1 x t1 rx q1 => ?_
  obtain ⟨d, e, k⟩ := lif_post q1
  exact hr Z S1 H1 env1 σ da d x Q t1.ok rx e fun S' H' t _ => k S' H' t

/-! ### displays -/
def fits (n : Nat) : Bool := decide (n ≤ 16777216)
def eTup (fa : M (List D)) : M D := bnd fa fun as => lif (if fits as.length then some (.tup as) else none)
def eLst (fa : M (List D)) : M D := bnd fa fun as => lif (if fits as.length then some (.lst as) else none)
theorem fits_line {n : Nat} (h : fits n = true) : n ≤ sizeLine := by rw [sizeLine_eq]; exact of_decide_eq_true h
/-- a new tuple is known -/
theorem Tr.newT {p : Addr} {ds : List D} {vs : List V} (o : Ok G Z S H env σ) (hp : H p = none) (r : RpL G S H ds vs) :
    Tr G Z S H env σ (fun a => S a ∨ (True ∧ a = p)) (upd H p (.tup vs)) env σ ∧ Rp G (fun a => S a ∨ (True ∧ a = p)) (upd H p (.tup vs)) (.tup ds) (.ref p) := by
  have t := Tr.alloc (ob := .tup vs) o hp True (.inr trivial) (fun ps z => by cases z)
  exact ⟨t, .tup (.inl (.inr ⟨trivial, rfl⟩)) (SqT.of upd_same) (t.rpl o r)⟩
theorem Tr.newL {p : Addr} {ds : List D} {vs : List V} (o : Ok G Z S H env σ) (hp : H p = none) (r : RpL G S H ds vs) :
    Tr G Z S H env σ (fun a => S a ∨ (True ∧ a = p)) (upd H p (.lst vs)) env σ ∧ Rp G (fun a => S a ∨ (True ∧ a = p)) (upd H p (.lst vs)) (.lst ds) (.ref p) := by
  have t := Tr.alloc (ob := .lst vs) o hp True (.inr trivial) (fun ps z => by cases z)
  exact ⟨t, .lst (.inr ⟨trivial, rfl⟩) upd_same (t.rpl o r)⟩
theorem se_tup {es : List Expr} {x1} {fa : M (List D)} (h : PA X es (tOfA G Z W fa)) : PE X (.Tuple es x1 pos) (tOf G Z W (eTup fa)) :=
  pe_imp (pe_tup h) fun σ H Q ⟨S, env, o, q⟩ => by
    refine tOfA.go o (Post.bind q) fun ds S1 H1 env1 vs t1 rx q1 => ?_
    obtain ⟨d, e, k⟩ := lif_post q1
    split at e <;> cases e
    rename_i hz
    refine ⟨by rw [rx.length]; exact fits_line hz, fun p hp => ?_⟩
    obtain ⟨t, r⟩ := Tr.newT t1.ok hp rx
    exact k _ _ t _ r
theorem se_lst {es : List Expr} {fa : M (List D)} (h : PA X es (tOfA G Z W fa)) : PE X (.List es pos) (tOf G Z W (eLst fa)) :=
  pe_imp (pe_lst h) fun σ H Q ⟨S, env, o, q⟩ => by
    refine tOfA.go o (Post.bind q) fun ds S1 H1 env1 vs t1 rx q1 => ?_
    obtain ⟨d, e, k⟩ := lif_post q1
    split at e <;> cases e
    rename_i hz
    refine ⟨by rw [rx.length]; exact fits_line hz, fun p hp => ?_⟩
    obtain ⟨t, r⟩ := Tr.newL t1.ok hp rx
    exact k _ _ t _ r

/-! ### tests, and, or, not, if -/
def dTru : D → Option Bool
  | .non => some false
  | .bl b => some b
  | .int i => some (i != 0)
  | .str x => if fits x.length then some ((x.length : Int) != 0) else none
  | .tup xs => some (!xs.isEmpty)
  | .lst xs => some (!xs.isEmpty)
  | .rol xs => some (!xs.isEmpty)
  | .dct xs => some (!xs.isEmpty)
  | .fn _ => none
theorem RpL.empty {ds : List D} {vs : List V} (h : RpL G S H ds vs) : (!vs.isEmpty) = !ds.isEmpty := by cases h <;> rfl
theorem RpD.empty {ds : List (D × D)} {vs : List (Key × V)} (h : RpD G S H ds vs) : (!vs.isEmpty) = !ds.isEmpty := by cases h <;> rfl
theorem tru_of {v : V} {b : Bool} (h : Rp G S H d v) (e : dTru d = some b) : TruV G.K v H b := by
  cases h with
  | non => cases e; rfl
  | bl b => cases e; rfl
  | int i => cases e; rfl
  | str x =>
    have e' : (if fits x.length then some ((x.length : Int) != 0) else none) = some b := e
    by_cases hz : fits x.length = true
    · rw [if_pos hz] at e'
      cases e'
      exact ⟨fits_line hz, rfl⟩
    · rw [if_neg hz] at e'
      cases e'
  | fn _ => cases e
  | tup s q l => cases e; exact .inr (.inl ⟨_, q, l.empty.symm⟩)
  | lst s q l => cases e; exact .inl ⟨_, SqL.of q, l.empty.symm⟩
  | rol s q l => cases e; exact .inl ⟨_, q, l.empty.symm⟩
  | dct s q l => cases e; exact .inr (.inr ⟨_, q, l.empty.symm⟩)
def eTru (f : M D) : M Bool := bnd f fun d => lif (dTru d)
theorem st_tru {f : M D} (hK : X.K = G.K) (h : PE X a (tOf G Z W f)) (he : ∀ whole, isTrue a X.env whole = (do let v ← whole; standAt a.pos; holding [v] (truthy v))) : PT X a (tOfT G Z W (eTru f)) :=
  pt_imp (pt_truth h he) fun σ H Q ⟨S, env, o, q⟩ => by
    refine tOf.go o (Post.bind q) fun d S1 H1 env1 v t1 rx q1 => ?_
    obtain ⟨b, e, k⟩ := lif_post q1
    exact ⟨b, by rw [hK]; exact tru_of rx e, k S1 H1 (Tr.refl t1.ok)⟩
def tAndM (f g : M Bool) : M Bool := bnd f fun b => if b then g else ret false
def tOrM (f g : M Bool) : M Bool := bnd f fun b => if b then ret true else g
def tNotM (f : M Bool) : M Bool := bnd f fun b => ret (!b)
theorem sw_and {rest : List Expr} {f g : M Bool} (ha : PT X a (tOfT G Z W f)) (hb : PW X (.BoolOp .And (b :: rest) pos) (tOfT G Z W g)) : PW X (.BoolOp .And (a :: b :: rest) pos) (tOfT G Z W (tAndM f g)) := by
  refine ⟨fun wh pins s σ H Q I h => (pw_and ha hb).run wh pins s σ H Q I ?_⟩
  obtain ⟨S, env, o, q⟩ := h
  refine tOfT.go o (Post.bind q) fun c S1 H1 env1 t1 q1 => ?_
  cases c with
  | true => exact ⟨S1, env1, t1.ok, q1⟩
  | false => exact q1 S1 H1 (Tr.refl t1.ok)
theorem sw_or {rest : List Expr} {f g : M Bool} (ha : PT X a (tOfT G Z W f)) (hb : PW X (.BoolOp .Or (b :: rest) pos) (tOfT G Z W g)) : PW X (.BoolOp .Or (a :: b :: rest) pos) (tOfT G Z W (tOrM f g)) := by
  refine ⟨fun wh pins s σ H Q I h => (pw_or ha hb).run wh pins s σ H Q I ?_⟩
  obtain ⟨S, env, o, q⟩ := h
  refine tOfT.go o (Post.bind q) fun c S1 H1 env1 t1 q1 => ?_
  cases c with
  | false => exact ⟨S1, env1, t1.ok, q1⟩
  | true => exact q1 S1 H1 (Tr.refl t1.ok)
theorem st_not {f : M Bool} (ha : PT X a (tOfT G Z W f)) : PT X (.UnaryOp .Not a pos) (tOfT G Z W (tNotM f)) :=
  pt_imp (pt_not ha) fun σ H Q ⟨S, env, o, q⟩ => by
    refine tOfT.go o (Post.bind q) fun c S1 H1 env1 t1 q1 => ?_
    exact q1 S1 H1 (Tr.refl t1.ok)
def eIf (c : M Bool) (f g : M D) : M D := bnd c fun b => if b then f else g
theorem se_if {fc : M Bool} {f g : M D} (hc : PT X c (tOfT G Z W fc)) (ha : PE X a (tOf G Z W f)) (hb : PE X b (tOf G Z W g)) : PE X (.IfExp c a b pos) (tOf G Z W (eIf fc f g)) :=
  pe_imp (pe_ifExp hc ha hb) fun σ H Q ⟨S, env, o, q⟩ => by
    refine tOfT.go o (Post.bind q) fun c S1 H1 env1 t1 q1 => ?_
    cases c with
    | true => exact ⟨S1, env1, t1.ok, q1⟩
    | false => exact ⟨S1, env1, t1.ok, q1⟩
end
end
end PL

set_option maxHeartbeats 4000000
namespace PL
open PySem PySem.Spec PyProof.Rows L2

/-! ### sorted(d) -/
section
variable {prog : Program} {w : World} {A : Around} {E : Value → Shared → Prop} {s : Shared} {T : String} {r d : Addr} {n : Nat} {P : Nat → Value → Prop} {OK : Heap → Prop}
theorem collect_src {Q : List Value → Shared → Prop} (K : PySem.W.KdlSrc prog w T r d n P OK) (hh : A.handled = none) (hok : OK s.heap) (hn : n ≤ sizeLine)
    (hQ : ∀ (h' : Heap) (tk : Nat) (acc : Array Value), (∀ b o, s.heap.get? b = some o → h'.get? b = some o) → s.heap.objs.size ≤ h'.objs.size → ItemsOf P acc n → Q acc.toList { s with heap := h', toks := tk }) :
    wpAny (model prog w) A (collect (.ref r)) Q E s := by
  unfold collect
  refine wpAny_bind (wpAny_runValue (codeAny_builtin F.entry_proto_collect ?_))
  rw [Around.under_plainId F.plain_proto_collect _]
  show wpAny _ A.in1 (newList [] >>= fun l => again (.builtin "list.__iadd__" ⟨[l, .ref r], []⟩)) _ _ s
  refine wpAny_bind (wpAny_newObj_type ?_)
  refine wpAny_pure ⟨plainId_quiet F.plain_list_iadd _, codeAny_builtin F.entry_list_iadd ?_⟩
  rw [Around.under_plainId F.plain_list_iadd _]
  show wpAny _ A.in1 (Builtin.List.listExtendWith (.ref s.heap.objs.size) (.ref r) (.ref s.heap.objs.size)) _ _ _
  have hS : (s.heap.push { cls := .type "list", data := .seq ([] : List Value).toArray }).get? s.heap.objs.size = some { cls := .type "list", data := .seq #[] 0 } := Heap.get?_push_size _ rfl
  have hlt := K.there _ hok
  refine wpAny_mono (PySem.W.kdl_extend (A := A) (R := fun rr s' => rr = .ok (.ret (.ref s.heap.objs.size)) ∧ ∃ (h' : Heap) (tk : Nat) (acc : Array Value) (c' : Nat), s' = { s with heap := h', toks := tk } ∧
      (∀ b o, s.heap.get? b = some o → h'.get? b = some o) ∧ h'.get? s.heap.objs.size = some { cls := .type "list", dict := none, data := .seq acc c', slots := #[] } ∧ ItemsOf P acc n)
    (s := { s with heap := s.heap.push { cls := .type "list", data := .seq ([] : List Value).toArray } }) K hh (K.keep _ _ hok fun b _ o e => Heap.get?_push_of_some _ e) _ (Nat.ne_of_gt hlt.1) (Nat.ne_of_gt hlt.2) _ 0 hS
    (fun h' tk acc c' hk e hi => ⟨rfl, h', tk, acc, c', rfl, fun b o q => hk b o (Nat.ne_of_lt (Heap.lt_size q)) (Heap.get?_push_of_some _ q), e, hi⟩) hn) (fun fin s' h => ?_) (fun e s' h => ?_)
  · cases fin with
    | done f =>
      obtain ⟨e, h', tk, acc, c', rfl, hk, hS', hi⟩ := h
      cases e
      show wpAny _ A (load s.heap.objs.size >>= _) _ _ _
      exact wpAny_bind (wpAny_load hS' (wpAny_pure (hQ h' tk acc hk (Nat.le_of_lt (Heap.lt_size hS')) hi)))
    | again c' =>
      refine ⟨h.1, codeAny_mono h.2 fun rr s'' hr' => ?_⟩
      obtain ⟨rfl, h', tk, acc, c', rfl, hk, hS', hi⟩ := hr'
      show wpAny _ A (load s.heap.objs.size >>= _) _ _ _
      exact wpAny_bind (wpAny_load hS' (wpAny_pure (hQ h' tk acc hk (Nat.le_of_lt (Heap.lt_size hS')) hi)))
  · exact absurd h.1 (by simp)
theorem sorted_src {ltv : Value → Value → Bool} {Q : Value → Shared → Prop} (O : SrtO.Swo ltv) (K : PySem.W.KdlSrc prog w T r d n P OK) (hh : A.in1.handled = none) (hok : OK s.heap) (hn : n ≤ sizeLine)
    (hS : ∀ (vs : List Value) (s' : Shared) (a : Addr), ItemsOf P vs.toArray n → 2 ≤ vs.length → SrtO.SortableO prog w A.in1.in1 s' a vs ltv)
    (h : ∀ (vs out : List Value) (h' : Heap) (tk : Nat) (a : Addr) (ep : Nat), ItemsOf P vs.toArray n → SrtO.Srtd ltv out → SrtO.Stb ltv out vs → (∀ b o, s.heap.get? b = some o → h'.get? b = some o) → s.heap.objs.size ≤ a → h'.get? a = some (seqObj "list" out.toArray ep) → Q (.ref a) { s with heap := h', toks := tk }) :
    wpAny (model prog w) A (call (.builtin "sorted") [.ref r]) Q E s := by
  refine Calls.call_function_entry kind_sorted plain_sorted entry_sorted (args_sorted1 _) ?_
  unfold Builtin.«sorted»
  refine wpAny_bind (m := checkCount "sorted" 1 1 _) (wpAny_pure ?_)
  refine wpAny_bind (collect_src K hh hok hn fun h' tk acc hk hle hacc => ?_)
  have hz : acc.toList.length ≤ sizeLine := by rw [Array.length_toList, hacc.1]; exact hn
  refine wpAny_bind (wpAny_newList ?_ hz)
  have hoL : (h'.push (seqObj "list" acc.toList.toArray 0)).get? h'.objs.size = some (seqObj "list" acc.toList.toArray 0) := Heap.get?_push_size _ rfl
  show wpAny _ _ _ _ _ { s with heap := h'.push (seqObj "list" acc.toList.toArray 0), toks := tk }
  have hacc' : ItemsOf P acc.toList.toArray n := by rw [Array.toArray_toList]; exact hacc
  refine wpAny_bind (wpAny_holding (wpAny_call_entry slot_list_sort ⟨_, hoL, rfl⟩ entry_list_sort (SrtO.list_sort_ord O hoL hz (fun h2 => hS _ _ _ hacc' h2) fun out hs hb => ⟨_, rfl, ?_⟩) (args_list_sort _)))
  obtain ⟨ep, he⟩ := sortedHeap_at (vs := acc.toList) (out := out.toArray) hoL
  refine wpAny_pure ⟨_, rfl, h acc.toList out _ _ _ ep hacc' hs hb (fun b o q => ?_) hle he⟩
  have hb1 := hk b o q
  have hb2 : b < h'.objs.size := Heap.lt_size hb1
  rw [sortedHeap_old (Nat.ne_of_lt hb2) (by rw [size_push']; exact Nat.lt_succ_of_lt hb2)]
  exact Heap.get?_push_of_some _ hb1
end
def rSortD : List V → Hp → VK → Prop := fun vs H Q => ∃ (a : Addr) (kvs : List (Key × V)) (ns : List Int), vs = [V.ref a] ∧ H a = some (.dK kvs) ∧ kvs.map (·.1) = ns.map Sum.inl ∧
  ∀ (ns' : List Int) (p : Addr), ns'.Perm ns → ns'.Pairwise (· ≤ ·) → H p = none → Q (.ref p) (upd H p (.lst (ns'.map V.int)))
theorem ints_of_at : ∀ {ns : List Int} {us : List Value}, us.length = ns.length → (∀ (j : Nat) (u : Value), us[j]? = some u → ∃ (k : Int), ns[j]? = some k ∧ ∃ t, u = Value.int k t) → IntsAre us ns
  | [], [], _, _ => .nil
  | [], _ :: _, h, _ => by simp at h
  | _ :: _, [], h, _ => by simp at h
  | n :: ns, u :: us, h, f => by
    obtain ⟨k, hk, t, e⟩ := f 0 u rfl
    have : n = k := by simpa using hk
    subst this; subst e
    exact .cons n t (ints_of_at (by simpa using h) fun j w h1 => by simpa using f (j + 1) w (by simpa using h1))
theorem mix_int {P : Program} {w : World} {i : Int} {u : Value} (h : (mixKind P w).is (.inl i) u = true) : ∃ t, u = Value.int i t := by
  have r : RelV (kV (.inl i)) u := keyIs_rel h
  exact (show ∃ t, u = Value.int i t from r)
theorem cr_sortD {X : Cx} (hc : X.calm = true) : CallR X (.builtin "sorted") rSortD := by
  intro pins s σ H vs us Q I r h
  obtain ⟨p, kvs, ns, e, hk, hns, q⟩ := h
  subst e
  obtain ⟨u, eu, rx⟩ := vals1 r
  subst eu
  obtain rfl : u = Value.ref p := rx
  obtain ⟨z, lo, ws, rk, hd⟩ := (show ObjOk X.prog X.w H s.heap p (.dK kvs) from I.hok p _ hk)
  obtain ⟨ep, hat⟩ := hd.dictAt
  have hl : kvs.length = ws.length := Paired.length rk
  have hln : ws.length = ns.length := by rw [← hl]; simpa using congrArg List.length hns
  have hin : ∀ vs : List Value, ItemsOf (fun i v => ∃ k x, ws[i]? = some (k, x) ∧ (mixKind X.prog X.w).is k v = true) vs.toArray ws.length → IntsAre vs ns := fun vs hv => by
    refine ints_of_at (by rw [← hln, ← hv.1]; simp) fun j u hu => ?_
    obtain ⟨k, y, hky, hi⟩ := hv.2 j u (by rw [List.getElem?_toArray]; exact hu)
    have e1 : (kvs.map (·.1))[j]? = some k := by
      rw [KV.keys rk, List.getElem?_map, hky] <;> rfl
    rw [hns, List.getElem?_map] at e1
    obtain ⟨i, ei, ek⟩ := Option.map_eq_some_iff.mp e1
    subst ek
    exact ⟨i, ei, mix_int hi⟩
  refine sorted_src SrtO.swo_int (PySem.W.kdl_dict (knd := mixKind X.prog X.w) (kvs := ws) (ep := ep) lo) (I.ok.hd hc) hat (by rw [← hl]; exact z) (fun vs s' a hv h2 => SrtO.ints_sortable (hin vs hv) h2) fun vs out h' tk a ep' hv h1 h2 hkeep hle hat' => ?_
  have hi := hin vs hv
  obtain ⟨k1, k2, k3⟩ := SrtO.ints_out hi h1 h2
  have hlen : ((out.map SrtO.iv).map V.int).length ≤ sizeLine := by
    rw [List.length_map, k2.length_eq, ← hln, ← hl]; exact z
  exact ⟨.ref a, upd H a (.lst ((out.map SrtO.iv).map V.int)), I.laid (t' := tk) hkeep hle ⟨hlen, out, ep', vals_of_ints k1, hat'⟩, rfl, q _ _ k2 k3 (I.hok.fresh hle)⟩
/-! ### d[k] by values -/
def rIxDct : R2 := fun x y H Q => ∃ a kvs k v, x = V.ref a ∧ H a = some (.dK kvs) ∧ y = kV k ∧ valV kvs k = some v ∧ Q v H
theorem ix_dct {X : Cx} : IxR X rIxDct := by
  intro value slice pins s σ H x y v u Q I rx ry h hs
  obtain ⟨a, kvs, k, z, rfl, e, ey, l, q⟩ := h
  obtain rfl : v = Value.ref a := rx
  subst ey
  obtain ⟨_, hd, vs, rel, dd⟩ := (show ObjOk X.prog X.w H s.heap a (.dK kvs) from I.hok a _ e)
  obtain ⟨w', hw, rw'⟩ := RelO.some_of (v := z) (o := valueAt vs k) (by rw [← l]; exact rel.val k)
  exact tail_any dd.mapOf.typeIs slot_dict_getitem.lookup (wpAny_getItem_of (kV_is ry) dd.mapOf hw ⟨z, H, I.tok _, rw', q⟩) hs
end PL

namespace PL
open PySem PySem.Spec PyProof.Rows L2

/-! ### data as the library's data -/
mutual
def toPy : D → PyData
  | .non => .none
  | .bl b => .bool b
  | .int i => .int i
  | .str x => .str x
  | .fn _ => .none
  | .tup xs => .tuple (toPyL xs)
  | .lst xs => .list (toPyL xs)
  | .dct _ => .none
  | .rol _ => .none
def toPyL : List D → List PyData
  | [] => []
  | x :: xs => toPy x :: toPyL xs
end
/-- no function, no dict within; not too deep; the texts are texts -/
def shp : Nat → D → Bool
  | _, .non => true
  | _, .bl _ => true
  | _, .int _ => true
  | _, .str x => PyData.strOk x
  | _, .fn _ => false
  | _, .dct _ => false
  | _, .rol _ => false
  | 0, _ => false
  | n + 1, .tup xs => xs.all (shp n)
  | n + 1, .lst xs => xs.all (shp n)
theorem shp_all (n : Nat) (ih : ∀ d, shp n d = true → (toPy d).canLay0 = true ∧ (toPy d).depth ≤ n) : ∀ xs : List D, xs.all (shp n) = true → PyData.canLayAll0 (toPyL xs) = true ∧ PyData.depthAll (toPyL xs) ≤ n
  | [], _ => ⟨by simp [toPyL, PyData.canLayAll0], by simp [toPyL, PyData.depthAll]⟩
  | x :: xs, h => by
    simp only [List.all_cons, Bool.and_eq_true] at h
    obtain ⟨h1, h2⟩ := ih x h.1
    obtain ⟨h3, h4⟩ := shp_all n ih xs h.2
    constructor
    · simp [toPyL, PyData.canLayAll0, h1, h3]
    · simp only [toPyL, PyData.depthAll]; omega
theorem shp_ok : ∀ (n : Nat) (d : D), shp n d = true → (toPy d).canLay0 = true ∧ (toPy d).depth ≤ n := by
  intro n
  induction n with
  | zero =>
    intro d h
    cases d with
    | tup xs => simp [shp] at h
    | lst xs => simp [shp] at h
    | fn x => simp [shp] at h
    | dct x => simp [shp] at h
    | rol x => simp [shp] at h
    | str x => simp only [shp] at h; exact ⟨by simp [toPy, PyData.canLay0, h], by simp [toPy, PyData.depth]⟩
    | non => exact ⟨by simp [toPy, PyData.canLay0], by simp [toPy, PyData.depth]⟩
    | bl x => exact ⟨by simp [toPy, PyData.canLay0], by simp [toPy, PyData.depth]⟩
    | int x => exact ⟨by simp [toPy, PyData.canLay0], by simp [toPy, PyData.depth]⟩
  | succ n ih =>
    intro d h
    cases d with
    | tup xs =>
      obtain ⟨h1, h2⟩ := shp_all n ih xs (by simpa [shp] using h)
      exact ⟨by simp [toPy, PyData.canLay0, h1], by simp only [toPy, PyData.depth]; omega⟩
    | lst xs =>
      obtain ⟨h1, h2⟩ := shp_all n ih xs (by simpa [shp] using h)
      exact ⟨by simp [toPy, PyData.canLay0, h1], by simp only [toPy, PyData.depth]; omega⟩
    | fn x => exact absurd h (by simp [shp])
    | dct x => exact absurd h (by simp [shp])
    | rol x => exact absurd h (by simp [shp])
    | str x => simp only [shp] at h; exact ⟨by simp [toPy, PyData.canLay0, h], by simp [toPy, PyData.depth]⟩
    | non => exact ⟨by simp [toPy, PyData.canLay0], by simp [toPy, PyData.depth]⟩
    | bl x => exact ⟨by simp [toPy, PyData.canLay0], by simp [toPy, PyData.depth]⟩
    | int x => exact ⟨by simp [toPy, PyData.canLay0], by simp [toPy, PyData.depth]⟩
theorem shaped_of {d : D} (h : shp 64 d = true) : SeqAt.shaped (toPy d) = true := by
  obtain ⟨h1, h2⟩ := shp_ok 64 d h
  exact Bool.and_eq_true_iff.mpr ⟨h1, decide_eq_true h2⟩
section
variable {G : Gx} {S : Pr} {H : Hp}
mutual
theorem Rp.dp : ∀ {n : Nat} {d : D} {v : V}, shp n d = true → Rp G S H d v → Dp G.K H v (toPy d)
  | _, _, _, _, .non => by simp only [toPy]; exact .non
  | _, _, _, _, .bl b => by simp only [toPy]; exact .bl b
  | _, _, _, _, .int i => by simp only [toPy]; exact .int i
  | _, _, _, _, .str x => by simp only [toPy]; exact .str x
  | n, _, _, h, .fn _ => by cases n <;> simp [shp] at h
  | 0, _, _, h, .tup _ _ _ => by simp [shp] at h
  | n + 1, _, _, h, .tup s q l => by
    simp only [toPy]
    exact .tup q (RpL.dp (by simpa [shp] using h) l)
  | 0, _, _, h, .lst _ _ _ => by simp [shp] at h
  | n + 1, _, _, h, .lst s q l => by
    simp only [toPy]
    exact .lst (SqL.of q) (RpL.dp (by simpa [shp] using h) l)
  | n, _, _, h, .rol _ _ _ => by cases n <;> simp [shp] at h
  | n, _, _, h, .dct _ _ _ => by cases n <;> simp [shp] at h
theorem RpL.dp : ∀ {n : Nat} {ds : List D} {vs : List V}, (∀ d ∈ ds, shp n d = true) → RpL G S H ds vs → DpAll G.K H vs (toPyL ds)
  | _, _, _, _, .nil => by simp only [toPyL]; exact .nil
  | n, _, _, h, .cons r t => by
    simp only [toPyL]
    exact .cons (Rp.dp (h _ (List.mem_cons_self ..)) r) (RpL.dp (fun d hd => h d (List.mem_cons_of_mem _ hd)) t)
end
end

/-! ### operators by data -/
section
variable {G : Gx} {Z : Zx} {S : Pr} {H : Hp} {env : Env} {σ : L2.St} {Q : VK} {d : D}
theorem fin_of {v : V} (o : Ok G Z S H env σ) (h : ∀ S' H', Tr G Z S H env σ S' H' env σ → Pu H H' → ∀ v, Rp G S' H' d v → Q v H') (r : Rp G S H d v) : Q v H := h S H (Tr.refl o) (fun _ _ e => e) v r
theorem fin_T {p : Addr} {ds : List D} {vs : List V} (o : Ok G Z S H env σ) (h : ∀ S' H', Tr G Z S H env σ S' H' env σ → Pu H H' → ∀ v, Rp G S' H' (.tup ds) v → Q v H') (hp : H p = none) (r : RpL G S H ds vs) : Q (.ref p) (upd H p (.tup vs)) := by
  obtain ⟨t, q⟩ := Tr.newT o hp r
  exact h _ _ t (fun _ _ e => by rw [upd_ne (ne_of_none e hp)]; exact e) _ q
theorem fin_L {p : Addr} {ds : List D} {vs : List V} (o : Ok G Z S H env σ) (h : ∀ S' H', Tr G Z S H env σ S' H' env σ → Pu H H' → ∀ v, Rp G S' H' (.lst ds) v → Q v H') (hp : H p = none) (r : RpL G S H ds vs) : Q (.ref p) (upd H p (.lst vs)) := by
  obtain ⟨t, q⟩ := Tr.newL o hp r
  exact h _ _ t (fun _ _ e => by rw [upd_ne (ne_of_none e hp)]; exact e) _ q

def gAdd : D → D → Option D
  | .int i, .int j => some (.int (i + j))
  | .str x, .str y => if fits (x.length + y.length) then some (.str (x ++ y)) else none
  | .tup xs, .tup ys => if fits (xs.length + ys.length) then some (.tup (xs ++ ys)) else none
  | .lst xs, .lst ys => if fits (xs.length + ys.length) then some (.lst (xs ++ ys)) else none
  | .int i, .bl b => some (.int (i + if b then 1 else 0))
  | _, _ => none
def rAdd (K : PySem.W.Frag) : R2 := fun x y H Q => ((((∃ i j, x = .int i ∧ y = .int j ∧ Q (.int (i + j)) H) ∨
  (∃ i j, x = .str i ∧ y = .str j ∧ i.length + j.length ≤ sizeLine ∧ Q (.str (i ++ j)) H)) ∨ rCatA K x y H Q) ∨ rCat x y H Q) ∨ (∃ i k, x = .int i ∧ y = .bl k ∧ Q (.int (i + b2i k)) H)
theorem op_addD {X : Cx} : OpR X (binaryOp .Add) (rAdd X.K) := ((((op_add.or op_add_str).or op_catA).or op_cat).or op_add_ib)
theorem b2i_eq (k : Bool) : b2i k = if k then 1 else 0 := by cases k <;> rfl
theorem RpL.ne {ds : List D} {vs : List V} (h : RpL G S H ds vs) : vs = [] → ds = [] := by cases h <;> simp
theorem d_add : OpD G gAdd (rAdd G.K) := by
  intro Z S H env σ a b d x y Q o ra rb e k
  cases ra <;> cases rb <;> simp only [gAdd] at e <;> try contradiction
  · cases e; exact .inr ⟨_, _, rfl, rfl, by rw [b2i_eq]; exact fin_of o k (.int _)⟩
  · cases e; exact .inl (.inl (.inl (.inl ⟨_, _, rfl, rfl, fin_of o k (.int _)⟩)))
  · split at e <;> cases e
    rename_i hz
    exact .inl (.inl (.inl (.inr ⟨_, _, rfl, rfl, fits_line hz, fin_of o k (.str _)⟩)))
  · split at e <;> cases e
    rename_i s1 q1 l1 _ _ _ s2 q2 l2 hz
    refine .inl (.inl (.inr ⟨_, _, _, _, rfl, rfl, q1, q2, by rw [l1.length, l2.length]; exact fits_line hz, fun z => ?_, fun z1 z2 => ?_, fun z1 z2 p hp => fin_T o k hp (l1.append l2)⟩))
    · have := l1.ne z; subst this
      exact fin_of o k (.tup s2 q2 l2)
    · have := l2.ne z2; subst this
      rw [List.append_nil] at k
      exact fin_of o k (.tup s1 q1 l1)
  · split at e <;> cases e
    rename_i s1 q1 l1 _ _ _ s2 q2 l2 hz
    exact .inl (.inr ⟨_, _, _, _, rfl, rfl, q1, q2, by rw [l1.length, l2.length]; exact fits_line hz, fun p hp => fin_L o k hp (l1.append l2)⟩)

def gSub : D → D → Option D
  | .int i, .int j => some (.int (i - j))
  | _, _ => none
theorem d_sub : OpD G gSub (rI0 fun i j => .int (i - j)) := by
  intro Z S H env σ a b d x y Q o ra rb e k
  cases ra <;> cases rb <;> simp only [gSub] at e <;> try contradiction
  cases e; exact ⟨_, _, rfl, rfl, fin_of o k (.int _)⟩

def mulOk (i j : Int) : Bool := decide (i.natAbs < 2 ^ 64) || decide (j.natAbs < 2 ^ 64) || decide (i.natAbs.log2 + j.natAbs.log2 < 1000000)
/-! ### a tuple taken once -/
theorem tup_mul_one (l : Addr) (items : Array Value) (n : Nat) (dd : Option Addr) (sl : Array (Option Value)) (u : Tok) :
    Meets (Builtin.«tuple.__mul__» ⟨[.ref l, .int 1 u], []⟩) (fun _ R s => s.heap.get? l = some { cls := .type "tuple", dict := dd, data := .seq items n, slots := sl } ∧ R (.ok (.ret (Value.ref l))) s) :=
  .of_wp fun prog w A R s z => by
    obtain ⟨hp, g, d, tk, os⟩ := s
    obtain ⟨lk, z⟩ := z
    have idx := AutoSeq1.idx_int
    have one : (items.isEmpty || (1 : Int) == 1) = true := by simp
    wp_walk using wpAny_loadPart' lk
    repeat (first
      | (refine wpAny_ite_false (by decide) ?_; wp_walk using wpAny_loadPart' lk)
      | (refine wpAny_ite_true (decide_eq_true one) ?_; wp_walk using wpAny_loadPart' lk))
    all_goals exact ⟨_, rfl, z⟩
def rRep1 (K : PySem.W.Frag) : R2 := fun x y H Q => ∃ (l : Addr) (xs : List V), x = .ref l ∧ y = .int 1 ∧ SqT K H l xs ∧ Q (.ref l) H
theorem op_rep1 {X : Cx} : OpR X (binaryOp .Mult) (rRep1 X.K) := by
  intro pins s σ H x y v u Q I rx ry h
  obtain ⟨l, xs, rfl, rfl, sq, q⟩ := h
  cases rx
  obtain ⟨t, rfl⟩ := ry
  obtain ⟨its, r, ⟨⟨cls, dd, data, sl⟩, at_, c_, n, d_⟩, _⟩ := I.tuple sq
  simp only at c_ d_
  subst c_ d_
  exact wpAny_binaryOp_repeat_ref (T := "tuple") (U := "int") (by decide) ⟨_, at_, rfl⟩ (fun z => typeIs_int z 1 t) noFill_tuple_mul F.fills_int_mul F.slot_int_rmul repeat_tuple F.slot_int_index.lookup
    (call_meets F.slot_int_rmul (typeIs_int s 1 t) F.entry_int_rmul (F.args_int_rmul_2 _ _) (int_rmul_tuple 1 t l its.toArray n dd sl)
      ⟨at_, rfl, ⟨_, at_, rfl⟩, call_meets F.slot_tuple_mul ⟨_, at_, rfl⟩ F.entry_tuple_mul (F.args_tuple_mul_2 _ _) (tup_mul_one l its.toArray n dd sl t) ⟨at_, .ref l, H, I, rfl, q⟩⟩)
/-! ### a tuple taken no time -/
theorem tup_mul_nil (l : Addr) (items : Array Value) (n : Nat) (dd : Option Addr) (sl : Array (Option Value)) (x : Int) (u : Tok) (c0 : (decide (x < -(2 ^ 63)) || decide (x ≥ 2 ^ 63)) = false) (c1 : (items.isEmpty || x == 1) = false) (c2 : (decide (x ≤ 0) || items.isEmpty) = true) :
    Meets (Builtin.«tuple.__mul__» ⟨[.ref l, .int x u], []⟩) (fun _ R s => s.heap.get? l = some { cls := .type "tuple", dict := dd, data := .seq items n, slots := sl } ∧
      R (.ok (.ret (Value.ref s.heap.objs.size))) { s with heap := s.heap.push { cls := Value.type "tuple", data := Data.seq #[] }, toks := s.toks }) :=
  .of_wp fun prog w A R s h => by
    obtain ⟨hp, g, d, tk, os⟩ := s
    obtain ⟨hl, h⟩ := h
    have f1 := AutoSeq1.idx_int
    wp_walk using wpAny_loadPart' hl
    repeat (first
      | (refine wpAny_ite_false (decide_eq_false (by rw [c0]; exact Bool.false_ne_true)) ?_; wp_walk using wpAny_loadPart' hl)
      | (refine wpAny_ite_false (decide_eq_false (by rw [c1]; exact Bool.false_ne_true)) ?_; wp_walk using wpAny_loadPart' hl)
      | (refine wpAny_ite_true (decide_eq_true c2) ?_; wp_walk using wpAny_loadPart' hl))
    exact ⟨_, rfl, h⟩
def rRep0 (K : PySem.W.Frag) : R2 := fun x y H Q => ∃ (l : Addr) (k : Int) (xs : List V), x = .ref l ∧ y = .int k ∧ SqT K H l xs ∧ xs ≠ [] ∧ k ≤ 0 ∧ -(2 ^ 63) ≤ k ∧ ∀ p, H p = none → Q (.ref p) (upd H p (.tup []))
theorem op_rep0 {X : Cx} : OpR X (binaryOp .Mult) (rRep0 X.K) := by
  intro pins s σ H x y v u Q I rx ry h
  obtain ⟨l, k, xs, rfl, rfl, hT, hne, h1, h2, q⟩ := h
  cases rx
  obtain ⟨t, rfl⟩ := ry
  obtain ⟨its, r, ⟨⟨cls, dd, data, sl⟩, ho, hc, n, hd⟩, hs⟩ := I.tuple hT
  simp only at hc hd
  subst hc hd
  have hle : its.length = xs.length := r.length.symm
  have hn : its ≠ [] := fun e => hne (by
    rw [e] at hle
    exact List.eq_nil_of_length_eq_zero hle.symm)
  have hi : its.toArray.isEmpty = false := by
    cases its with
    | nil => exact absurd rfl hn
    | cons a b => rfl
  have c0 : (decide (k < -(2 ^ 63)) || decide (k ≥ 2 ^ 63)) = false := by
    rw [decide_eq_false (by omega), decide_eq_false (by omega)] <;> rfl
  have c1 : (its.toArray.isEmpty || k == 1) = false := by
    rw [hi, Bool.false_or]
    exact beq_eq_false_iff_ne.mpr (by omega)
  have c2 : (decide (k ≤ 0) || its.toArray.isEmpty) = true := by
    rw [decide_eq_true h1, Bool.true_or]
  refine wpAny_binaryOp_repeat_ref (T := "tuple") (U := "int") (by decide) ⟨_, ho, rfl⟩ (fun s' => typeIs_int s' k t) noFill_tuple_mul F.fills_int_mul F.slot_int_rmul repeat_tuple F.slot_int_index.lookup
    (call_meets F.slot_int_rmul (typeIs_int s k t) F.entry_int_rmul (F.args_int_rmul_2 _ _) (int_rmul_tuple k t l its.toArray n dd sl)
      ⟨ho, rfl, ⟨_, ho, rfl⟩, call_meets F.slot_tuple_mul ⟨_, ho, rfl⟩ F.entry_tuple_mul (F.args_tuple_mul_2 _ _) (tup_mul_nil l its.toArray n dd sl k t c0 c1 c2) ⟨ho, ?_⟩⟩)
  refine ⟨.ref s.heap.objs.size, _, I.laid (t' := s.toks) (o := .tup []) (fun b ob q => Heap.get?_push_of_some _ q) (Nat.le_refl _) ?_, rfl, q _ (I.hok.fresh (Nat.le_refl _))⟩
  exact ⟨by show 0 ≤ sizeLine; omega, _, .nil, IsTup.new _ _⟩
def rMulD (K : PySem.W.Frag) : R2 := fun x y H Q => (((rI CMul (fun i j => .int (i * j)) x y H Q ∨ rI CMulW (fun i j => .int (i * j)) x y H Q) ∨ rRepT K x y H Q) ∨ rRep1 K x y H Q) ∨ rRep0 K x y H Q
theorem op_mulD {X : Cx} : OpR X (binaryOp .Mult) (rMulD X.K) := (((op_mul.or op_mulW).or op_repT).or op_rep1).or op_rep0
theorem RpL.rep {xs : List D} {vs : List V} (h : RpL G S H xs vs) : ∀ n, RpL G S H (List.replicate n xs).flatten (List.replicate n vs).flatten
  | 0 => .nil
  | n + 1 => by
    rw [List.replicate_succ, List.replicate_succ, List.flatten_cons, List.flatten_cons]
    exact h.append (RpL.rep h n)
def gMulI : D → D → Option D
  | .int i, .int j => if mulOk i j then some (.int (i * j)) else none
  | .tup xs, .int k => if k = 1 then some (.tup xs) else if !xs.isEmpty && decide (k ≤ 0) && decide (-(2 ^ 63) ≤ k) then some (.tup []) else if !xs.isEmpty && decide (2 ≤ k) && decide (k ≤ 1000) && decide (xs.length ≤ 1000) then some (.tup (List.replicate k.toNat xs).flatten) else none
  | _, _ => none
theorem d_mul : OpD G gMulI (rMulD G.K) := by
  intro Z S H env σ a b d x y Q o ra rb e k
  cases ra <;> cases rb <;> simp only [gMulI] at e <;> try contradiction
  · split at e <;> cases e
    rename_i hz
    simp only [mulOk, Bool.or_eq_true, decide_eq_true_eq] at hz
    rcases hz with (hz | hz) | hz
    · exact .inl (.inl (.inl (.inl ⟨_, _, rfl, rfl, .inl (by omega), fin_of o k (.int _)⟩)))
    · exact .inl (.inl (.inl (.inl ⟨_, _, rfl, rfl, .inr (by omega), fin_of o k (.int _)⟩)))
    · exact .inl (.inl (.inl (.inr ⟨_, _, rfl, rfl, hz, fin_of o k (.int _)⟩)))
  · rename_i s1 q1 l1 m
    split at e
    · rename_i h1
      cases e
      subst h1
      exact .inl (.inr ⟨_, _, rfl, rfl, q1, fin_of o k (.tup s1 q1 l1)⟩)
    · split at e
      · rename_i hz
        cases e
        simp only [Bool.and_eq_true, decide_eq_true_eq] at hz
        obtain ⟨⟨h1, h2⟩, h3⟩ := hz
        refine .inr ⟨_, _, _, rfl, rfl, q1, fun z => ?_, h2, h3, fun p hp => fin_T o k hp .nil⟩
        have := l1.ne z
        subst this
        simp at h1
      · split at e <;> cases e
        rename_i hz
        simp only [Bool.and_eq_true, decide_eq_true_eq] at hz
        obtain ⟨⟨⟨h1, h2⟩, h3⟩, h4⟩ := hz
        refine .inl (.inl (.inr ⟨_, _, _, rfl, rfl, q1, fun z => ?_, h2, h3, by rw [l1.length]; exact h4, fun p hp => fin_T o k hp (l1.rep _)⟩))
        have := l1.ne z
        subst this
        simp at h1

def gFdiv : D → D → Option D
  | .int i, .int j => if decide (0 < j) && decide (j.natAbs.log2 < 9000) then some (.int (i / j)) else if decide (j < 0) && decide (j.natAbs.log2 < 9000) then some (.int (i.fdiv j)) else none
  | _, _ => none
/-- // by any divisor but nought, below 2 ^ 9000 -/
def CDivZ (_ j : Int) : Prop := (0 < j ∨ j < 0) ∧ j.natAbs.log2 < 9000
theorem op_fdivZ {X : Cx} : OpR X (binaryOp .FloorDiv) (rI CDivZ fun i j => .int (if 0 < j then i / j else i.fdiv j)) := opI fun i j _ _ _ _ _ hc q => by
  have e : i.fdiv j = if 0 < j then i / j else i.fdiv j := by
    split
    · exact Int.fdiv_eq_ediv_of_nonneg i (by omega)
    · rfl
  exact floordiv_int (by have := hc.1; omega) (by rw [e]; exact q) (.inl (PyProof.noPylong_of_log2 hc.2))
theorem d_fdiv : OpD G gFdiv (rI CDivZ fun i j => .int (if 0 < j then i / j else i.fdiv j)) := by
  intro Z S H env σ a b d x y Q o ra rb e k
  cases ra <;> cases rb <;> simp only [gFdiv] at e <;> try contradiction
  split at e
  · cases e
    rename_i hz
    simp only [Bool.and_eq_true, decide_eq_true_eq] at hz
    exact ⟨_, _, rfl, rfl, ⟨.inl hz.1, hz.2⟩, by dsimp only; rw [if_pos hz.1]; exact fin_of o k (.int _)⟩
  · split at e <;> cases e
    rename_i hz
    simp only [Bool.and_eq_true, decide_eq_true_eq] at hz
    exact ⟨_, _, rfl, rfl, ⟨.inr hz.1, hz.2⟩, by dsimp only; rw [if_neg (by omega)]; exact fin_of o k (.int _)⟩
def gMod : D → D → Option D
  | .int i, .int j => if decide (0 < j) then some (.int (i % j)) else none
  | _, _ => none
theorem d_mod : OpD G gMod (rI (fun _ j => 0 < j) fun i j => .int (i % j)) := by
  intro Z S H env σ a b d x y Q o ra rb e k
  cases ra <;> cases rb <;> simp only [gMod] at e <;> try contradiction
  split at e <;> cases e
  rename_i hz
  exact ⟨_, _, rfl, rfl, of_decide_eq_true hz, fin_of o k (.int _)⟩
def gPow : D → D → Option D
  | .int i, .int j => if decide (0 ≤ j) && decide (j ≤ 1000000) && decide (i.natAbs < 2 ^ 64) then some (.int (i ^ j.toNat)) else none
  | _, _ => none
theorem d_pow : OpD G gPow (rI CPow fun i j => .int (i ^ j.toNat)) := by
  intro Z S H env σ a b d x y Q o ra rb e k
  cases ra <;> cases rb <;> simp only [gPow] at e <;> try contradiction
  split at e <;> cases e
  rename_i hz
  simp only [Bool.and_eq_true, decide_eq_true_eq] at hz
  exact ⟨_, _, rfl, rfl, ⟨hz.1.1, hz.1.2, hz.2⟩, fin_of o k (.int _)⟩
def gNeg : D → Option D
  | .int i => some (.int (-i))
  | _ => none
theorem d_neg : UnD G gNeg (rU fun i => .int (-i)) := by
  intro Z S H env σ a d x Q o ra e k
  cases ra <;> simp only [gNeg] at e <;> try contradiction
  cases e; exact ⟨_, rfl, fin_of o k (.int _)⟩

/-! ### comparisons -/
def dEqv : D → D → Option Bool
  | .int i, .int j => some (decide (i = j))
  | .bl i, .bl j => some (decide (i = j))
  | .str i, .str j => some (decide (i = j))
  | .non, .non => some true
  | a, b => if shp 64 a && shp 64 b then some (PyData.eqv (toPy a) (toPy b)) else none
def gEq (a b : D) : Option D := match dEqv a b with
  | some c => some (.bl c)
  | none => (match a, b with
    | .dct _, .tup _ => some (.bl false)
    | _, _ => none)
theorem dct_eq_tup (l b : Addr) (items2 : Array Value) (n2 : Nat) (es : Array DictEntry) (ep : Nat) (dd dd2 : Option Addr) (sl sl2 : Array (Option Value)) :
    Meets (Builtin.«dict.__eq__» ⟨[.ref l, .ref b], []⟩) (fun _ R s => s.heap.get? l = some { cls := .type "dict", dict := dd, data := .dict es ep, slots := sl } ∧ s.heap.get? b = some { cls := .type "tuple", dict := dd2, data := .seq items2 n2, slots := sl2 } ∧ R (.ok (.ret .notImplemented)) s) :=
  .of_wp fun prog w A R s h => by obtain ⟨hp, g, d, tk, os⟩ := s; obtain ⟨hl, hb, h⟩ := h; have f1 := F.sub_tuple_dict; wp_walk using wpAny_loadPart' hl, wpAny_loadPart' hb; exact ⟨_, rfl, h⟩
theorem tup_eq_dct (l b : Addr) (items : Array Value) (n : Nat) (es : Array DictEntry) (ep : Nat) (dd dd2 : Option Addr) (sl sl2 : Array (Option Value)) :
    Meets (Builtin.«tuple.__eq__» ⟨[.ref l, .ref b], []⟩) (fun _ R s => s.heap.get? l = some { cls := .type "tuple", dict := dd, data := .seq items n, slots := sl } ∧ s.heap.get? b = some { cls := .type "dict", dict := dd2, data := .dict es ep, slots := sl2 } ∧ R (.ok (.ret .notImplemented)) s) :=
  .of_wp fun prog w A R s h => by obtain ⟨hp, g, d, tk, os⟩ := s; obtain ⟨hl, hb, h⟩ := h; have f1 := F.sub_dict_tuple; wp_walk using wpAny_loadPart' hl, wpAny_loadPart' hb; exact ⟨_, rfl, h⟩
def rEqDT (K : PySem.W.Frag) : R2 := fun x y H Q => ∃ (a b : Addr) (kvs : List (Key × V)) (ws : List V), x = .ref a ∧ y = .ref b ∧ H a = some (.dK kvs) ∧ SqT K H b ws ∧ Q (.bl false) H
theorem op_eqDT {X : Cx} (hu : X.A.units < cLine) : OpR X (compareOp .Eq) (rEqDT X.K) := by
  intro pins s σ H x y v u Q I rx ry h
  obtain ⟨a, b, kvs, ws, rfl, rfl, ha, hb, q⟩ := h
  obtain rfl : v = Value.ref a := rx
  obtain rfl : u = Value.ref b := ry
  obtain ⟨_, _, vs, _, ob, es, ep, e1, ⟨c1, c2, c3⟩, dt, _⟩ := (show ObjOk X.prog X.w H s.heap a (.dK kvs) from I.hok a _ ha)
  obtain ⟨its, r, ⟨⟨cls2, dd2, data2, sl2⟩, e2, hc2, n2, hd2⟩, _⟩ := I.tuple hb
  obtain ⟨cls, dd, data, sl⟩ := ob
  simp only at c1 c2 c3 dt hc2 hd2
  subst c1 c2 c3 dt hc2 hd2
  have hne : a ≠ b := fun z => by
    subst z
    rw [e1] at e2
    have := congrArg (fun o : Option Obj => o.map (·.cls)) e2
    simp at this
  exact (SeqAt.rc_eq_decline_or (k := false) ⟨_, e1, rfl⟩ ⟨_, e2, rfl⟩ (by decide) F.sub_tuple_dict F.slot_dict_eq F.slot_tuple_eq_refl
    (fun _ hq => call_meets F.slot_dict_eq ⟨_, e1, rfl⟩ F.entry_dict_eq (F.args_dict_eq_2 _ _) (dct_eq_tup a b its.toArray n2 es ep none dd2 #[] sl2) ⟨e1, e2, hq⟩)
    (fun _ hq => call_meets F.slot_tuple_eq_refl ⟨_, e2, rfl⟩ F.entry_tuple_eq (F.args_tuple_eq_2 _ _) (tup_eq_dct b a its.toArray n2 es ep dd2 none sl2 #[]) ⟨e2, e1, hq⟩)
    (fun _ hq => wpAny_isSame_ref_other hne e1 e2 (by simp) hq) (.inr hu) ⟨.bl false, H, I, rfl, q⟩)
def gNe (a b : D) : Option D := (dEqv a b).map fun c => .bl (!c)
def rEqA (K : PySem.W.Frag) : R2 := fun x y H Q => (rEq x y H Q ∨ rEqD K x y H Q) ∨ rEqDT K x y H Q
def rNeA (K : PySem.W.Frag) : R2 := fun x y H Q => rNe x y H Q ∨ rNeD K x y H Q
theorem op_eqA {X : Cx} (hu : X.A.units + 64 < cLine) : OpR X (compareOp .Eq) (rEqA X.K) := (op_eq.or (op_eqD hu)).or (op_eqDT (by omega))
theorem op_neA {X : Cx} (hu : X.A.units + 64 < cLine) : OpR X (compareOp .NotEq) (rNeA X.K) := op_ne.or (op_neD hu)
theorem dEqv_cases (a b : D) : (∃ i j, a = .int i ∧ b = .int j) ∨ (∃ i j, a = .bl i ∧ b = .bl j) ∨ (∃ i j, a = .str i ∧ b = .str j) ∨ (a = .non ∧ b = .non) ∨
    dEqv a b = if shp 64 a && shp 64 b then some (PyData.eqv (toPy a) (toPy b)) else none := by
  cases a <;> cases b <;> first
    | exact .inl ⟨_, _, rfl, rfl⟩
    | exact .inr (.inl ⟨_, _, rfl, rfl⟩)
    | exact .inr (.inr (.inl ⟨_, _, rfl, rfl⟩))
    | exact .inr (.inr (.inr (.inl ⟨rfl, rfl⟩)))
    | exact .inr (.inr (.inr (.inr rfl)))
theorem eqv_of {a b : D} {x y : V} {c : Bool} (ra : Rp G S H a x) (rb : Rp G S H b y) (e : dEqv a b = some c) :
    (scal x y = true ∧ c = decide (x = y)) ∨ ∃ p q, Dp G.K H x p ∧ Dp G.K H y q ∧ SeqAt.shaped p = true ∧ SeqAt.shaped q = true ∧ c = PyData.eqv p q := by
  rcases dEqv_cases a b with ⟨i, j, h1, h2⟩ | ⟨i, j, h1, h2⟩ | ⟨i, j, h1, h2⟩ | ⟨h1, h2⟩ | h
  · subst h1 h2; cases ra; cases rb; exact .inl ⟨rfl, by have e' := Option.some.inj e; rw [← e']; simp⟩
  · subst h1 h2; cases ra; cases rb; exact .inl ⟨rfl, by have e' := Option.some.inj e; rw [← e']; simp⟩
  · subst h1 h2; cases ra; cases rb; exact .inl ⟨rfl, by have e' := Option.some.inj e; rw [← e']; simp⟩
  · subst h1 h2; cases ra; cases rb; exact .inl ⟨rfl, by have e' := Option.some.inj e; rw [← e']; simp⟩
  · rw [h] at e
    split at e <;> cases e
    rename_i hz
    simp only [Bool.and_eq_true] at hz
    exact .inr ⟨_, _, ra.dp hz.1, rb.dp hz.2, shaped_of hz.1, shaped_of hz.2, rfl⟩
theorem d_eq : OpD G gEq (rEqA G.K) := by
  intro Z S H env σ a b d x y Q o ra rb e k
  unfold gEq at e
  cases hc : dEqv a b with
  | none =>
    rw [hc] at e
    simp only at e
    split at e <;> cases e
    cases ra with | dct s q l => cases rb with | tup s2 q2 l2 => exact .inr ⟨_, _, _, _, rfl, rfl, q, q2, fin_of o k (.bl false)⟩
  | some c =>
    rw [hc] at e; cases e
    rcases eqv_of ra rb hc with ⟨h1, h2⟩ | ⟨p, q, h1, h2, h3, h4, h5⟩
    · exact .inl (.inl ⟨h1, by rw [← h2]; exact fin_of o k (.bl c)⟩)
    · exact .inl (.inr ⟨p, q, h1, h2, h3, h4, by rw [← h5]; exact fin_of o k (.bl c)⟩)
theorem d_ne : OpD G gNe (rNeA G.K) := by
  intro Z S H env σ a b d x y Q o ra rb e k
  unfold gNe at e
  cases hc : dEqv a b with
  | none => rw [hc] at e; cases e
  | some c =>
    rw [hc] at e; cases e
    rcases eqv_of ra rb hc with ⟨h1, h2⟩ | ⟨p, q, h1, h2, h3, h4, h5⟩
    · exact .inl ⟨h1, by rw [← h2]; exact fin_of o k (.bl (!c))⟩
    · exact .inr ⟨p, q, h1, h2, h3, h4, by rw [← h5]; exact fin_of o k (.bl (!c))⟩
def asInts : List D → Option (List Int)
  | [] => some []
  | .int i :: r => (asInts r).map (i :: ·)
  | _ :: _ => none
theorem asInts_of : ∀ {ds : List D} {vs : List V} {ns : List Int}, asInts ds = some ns → RpL G S H ds vs → vs = ns.map V.int ∧ ds = ns.map D.int
  | [], _, _, e, .nil => by cases e; exact ⟨rfl, rfl⟩
  | d :: ds, _, _, e, .cons h t => by
    cases d <;> simp only [asInts] at e <;> try contradiction
    cases h
    cases q : asInts ds with
    | none => rw [q] at e; cases e
    | some r =>
      rw [q] at e; cases e
      obtain ⟨h1, h2⟩ := asInts_of q t
      exact ⟨by rw [h1]; rfl, by rw [h2]; rfl⟩
theorem asInts_map (ns : List Int) : asInts (ns.map D.int) = some ns := by
  induction ns with
  | nil => rfl
  | cons n r ih => simp [asInts, ih]
def gLt : D → D → Option D
  | .int i, .int j => some (.bl (decide (i < j)))
  | .tup xs, .tup ys => match asInts xs, asInts ys with
    | some ns, some ms => some (.bl (HT.lexLt ns ms))
    | _, _ => none
  | _, _ => none
def rLtA (K : PySem.W.Frag) : R2 := fun x y H Q => rI0 (fun i j => .bl (decide (i < j))) x y H Q ∨ rLtT K x y H Q
theorem op_ltA {X : Cx} (hu : X.A.units < cLine) : OpR X (compareOp .Lt) (rLtA X.K) := op_lt.or (op_ltT hu)
theorem d_lt : OpD G gLt (rLtA G.K) := by
  intro Z S H env σ a b d x y Q o ra rb e k
  cases ra <;> cases rb <;> simp only [gLt] at e <;> try contradiction
  · cases e; exact .inl ⟨_, _, rfl, rfl, fin_of o k (.bl _)⟩
  · split at e <;> cases e
    rename_i s1 q1 l1 _ _ _ s2 q2 l2 _ _ ns ms e1 e2
    obtain ⟨f1, _⟩ := asInts_of e1 l1
    obtain ⟨f2, _⟩ := asInts_of e2 l2
    subst f1 f2
    exact .inr ⟨_, _, ns, ms, rfl, rfl, q1, q2, fin_of o k (.bl _)⟩
def gLe : D → D → Option D
  | .int i, .int j => some (.bl (decide (i ≤ j)))
  | _, _ => none
theorem d_le : OpD G gLe (rI0 fun i j => .bl (decide (i ≤ j))) := by
  intro Z S H env σ a b d x y Q o ra rb e k
  cases ra <;> cases rb <;> simp only [gLe] at e <;> try contradiction
  cases e; exact ⟨_, _, rfl, rfl, fin_of o k (.bl _)⟩
def gGt : D → D → Option D
  | .int i, .int j => some (.bl (decide (j < i)))
  | _, _ => none
theorem d_gt : OpD G gGt (rI0 fun i j => .bl (decide (j < i))) := by
  intro Z S H env σ a b d x y Q o ra rb e k
  cases ra <;> cases rb <;> simp only [gGt] at e <;> try contradiction
  cases e; exact ⟨_, _, rfl, rfl, fin_of o k (.bl _)⟩
def gGe : D → D → Option D
  | .int i, .int j => some (.bl (decide (j ≤ i)))
  | _, _ => none
theorem d_ge : OpD G gGe (rI0 fun i j => .bl (decide (j ≤ i))) := by
  intro Z S H env σ a b d x y Q o ra rb e k
  cases ra <;> cases rb <;> simp only [gGe] at e <;> try contradiction
  cases e; exact ⟨_, _, rfl, rfl, fin_of o k (.bl _)⟩
def isNon : D → Bool
  | .non => true
  | _ => false
def gIsN : D → D → Option D
  | a, .non => some (.bl (isNon a))
  | .bl a, .bl b => some (.bl (decide (a = b)))
  | _, _ => none
def gNotN : D → D → Option D
  | a, .non => some (.bl (!isNon a))
  | .bl a, .bl b => some (.bl (!decide (a = b)))
  | _, _ => none
theorem isNon_of {a : D} {x : V} (h : Rp G S H a x) : decide (x = .non) = isNon a := by cases h <;> simp [isNon]
def rIsX (n : Bool) : R2 := fun x y H Q => (y = .non ∧ Q (.bl (n != decide (x = .non))) H) ∨ (∃ a b, x = .bl a ∧ y = .bl b ∧ Q (.bl (n != decide (a = b))) H)
theorem op_isX {X : Cx} : OpR X (compareOp .Is) (rIsX false) := by
  have := (op_isN (X := X)).or (op_is_bl (X := X))
  unfold rIsX
  simpa using this
theorem op_notX {X : Cx} : OpR X (compareOp .IsNot) (rIsX true) := by
  have := (op_notN (X := X)).or (op_isnot_bl (X := X))
  unfold rIsX
  simpa using this
theorem d_isN : OpD G gIsN (rIsX false) := by
  intro Z S H env σ a b d x y Q o ra rb e k
  cases rb <;> simp only [gIsN] at e
  · cases e; exact .inl ⟨rfl, by rw [isNon_of ra]; simpa using fin_of o k (.bl _)⟩
  · cases ra <;> try contradiction
    cases e; exact .inr ⟨_, _, rfl, rfl, by simpa using fin_of o k (.bl _)⟩
  all_goals (cases ra <;> contradiction)
theorem d_notN : OpD G gNotN (rIsX true) := by
  intro Z S H env σ a b d x y Q o ra rb e k
  cases rb <;> simp only [gNotN] at e
  · cases e; exact .inl ⟨rfl, by rw [isNon_of ra]; simpa using fin_of o k (.bl _)⟩
  · cases ra <;> try contradiction
    cases e; exact .inr ⟨_, _, rfl, rfl, by simpa using fin_of o k (.bl _)⟩
  all_goals (cases ra <;> contradiction)

/-! ### in -/
def dFlat : D → Bool
  | .non => true
  | .bl _ => true
  | .int _ => true
  | .str _ => true
  | _ => false
def fEq : D → D → Bool
  | .non, .non => true
  | .bl a, .bl b => a == b
  | .bl a, .int b => (if a then 1 else 0) == b
  | .int a, .bl b => a == (if b then 1 else 0)
  | .int a, .int b => a == b
  | .str a, .str b => a == b
  | _, _ => false
def dIn (x : D) : D → Option Bool
  | .tup ys => if dFlat x && ys.all dFlat then some (ys.any fun y => fEq y x) else if shp 64 x && shp 64 (.tup ys) then some ((toPyL ys).any fun z => PyData.eqv z (toPy x)) else none
  | .lst ys => if dFlat x && ys.all dFlat then some (ys.any fun y => fEq y x) else if shp 64 x && shp 64 (.lst ys) then some ((toPyL ys).any fun z => PyData.eqv z (toPy x)) else none
  | _ => none
theorem flat_of {a : D} {x : V} (h : Rp G S H a x) (e : dFlat a = true) : flatV x = true := by cases h <;> simp [dFlat] at e <;> rfl
theorem flats_of : ∀ {ds : List D} {vs : List V}, RpL G S H ds vs → ds.all dFlat = true → vs.all flatV = true
  | _, _, .nil, _ => rfl
  | _, _, .cons h t, e => by
    simp only [List.all_cons, Bool.and_eq_true] at e
    simp only [List.all_cons, Bool.and_eq_true]
    exact ⟨flat_of h e.1, flats_of t e.2⟩
theorem fEq_of {a b : D} {x y : V} (ra : Rp G S H a x) (rb : Rp G S H b y) (ea : dFlat a = true) (eb : dFlat b = true) : eqV x y = fEq a b := by
  cases ra <;> simp [dFlat] at ea <;> cases rb <;> simp [dFlat] at eb <;> rfl
theorem inV_of {a : D} {x : V} (ra : Rp G S H a x) (ea : dFlat a = true) : ∀ {ds : List D} {vs : List V}, RpL G S H ds vs → ds.all dFlat = true → inV x vs = ds.any fun y => fEq y a
  | _, _, .nil, _ => rfl
  | _, _, .cons h t, e => by
    simp only [List.all_cons, Bool.and_eq_true] at e
    have ih := inV_of ra ea t e.2
    unfold inV at ih ⊢
    simp only [List.any_cons, ih, fEq_of h ra e.1 ea]
def gIn (x y : D) : Option D := (dIn x y).map .bl
def gNotIn (x y : D) : Option D := (dIn x y).map fun c => .bl (!c)
/-- in a tuple of data -/
def rInT (K : PySem.W.Frag) (n : Bool) : R2 := fun x y H Q => ∃ d ds, Dp K H x d ∧ Dp K H y (.tuple ds) ∧ SeqAt.shaped d = true ∧ SeqAt.shaped (.tuple ds) = true ∧ Q (.bl (n != ds.any fun z => PyData.eqv z d)) H
theorem room_inT {A : Around} {d : PyData} {ds : List PyData} (sd : SeqAt.shaped d = true) (hu : A.units + 65 < cLine) : A.units + 1 + min (PyData.depthAll ds) d.depth < cLine := by
  have h1 := SeqAt.depth_of_shaped sd
  have h2 : min (PyData.depthAll ds) d.depth ≤ d.depth := Nat.min_le_right _ _
  omega
theorem op_inT {X : Cx} (hu : X.A.units + 65 < cLine) : OpR X (compareOp .In) (rInT X.K false) := by
  intro pins s σ H x y v u Q I rx ry ⟨d, ds, hd, he, sd, se, q⟩
  obtain ⟨as, r1⟩ := Dp.reads I d x v hd rx
  obtain ⟨bs, r2⟩ := Dp.reads I (.tuple ds) y u he ry
  exact SeqAt.in_tuple_reads r2 r1 (SeqAt.canLay_of_shaped se) (SeqAt.canLay_of_shaped sd) (room_inT sd hu) ⟨.bl _, H, I, rfl, by simpa using q⟩
theorem op_notInT {X : Cx} (hu : X.A.units + 65 < cLine) : OpR X (compareOp .NotIn) (rInT X.K true) := by
  intro pins s σ H x y v u Q I rx ry ⟨d, ds, hd, he, sd, se, q⟩
  obtain ⟨as, r1⟩ := Dp.reads I d x v hd rx
  obtain ⟨bs, r2⟩ := Dp.reads I (.tuple ds) y u he ry
  exact SeqAt.notIn_tuple_reads r2 r1 (SeqAt.canLay_of_shaped se) (SeqAt.canLay_of_shaped sd) (room_inT sd hu) ⟨.bl _, H, I, rfl, by simpa using q⟩
def rInA (K : PySem.W.Frag) : R2 := fun x y H Q => (rIn K false x y H Q ∨ rInD K x y H Q) ∨ rInT K false x y H Q
def rNotInA (K : PySem.W.Frag) : R2 := fun x y H Q => (rIn K true x y H Q ∨ rNotInD K x y H Q) ∨ rInT K true x y H Q
theorem op_inA {X : Cx} (hu : X.A.units + 65 < cLine) : OpR X (compareOp .In) (rInA X.K) := (op_in_seq.or (op_inD hu)).or (op_inT hu)
theorem op_notInA {X : Cx} (hu : X.A.units + 65 < cLine) : OpR X (compareOp .NotIn) (rNotInA X.K) := (op_notIn_seq.or (op_notInD hu)).or (op_notInT hu)
theorem in_of {a b : D} {x y : V} {c : Bool} (ra : Rp G S H a x) (rb : Rp G S H b y) (e : dIn a b = some c) :
    (∃ p xs, y = .ref p ∧ (SqL G.K H p xs ∨ SqT G.K H p xs) ∧ flatV x = true ∧ xs.all flatV = true ∧ c = inV x xs) ∨
    ∃ d ds, Dp G.K H x d ∧ (Dp G.K H y (.list ds) ∧ SeqAt.shaped (.list ds) = true ∨ Dp G.K H y (.tuple ds) ∧ SeqAt.shaped (.tuple ds) = true) ∧ SeqAt.shaped d = true ∧ c = ds.any fun z => PyData.eqv z d := by
  cases rb with
  | tup s q l =>
    simp only [dIn] at e
    split at e
    · rename_i hz
      cases e
      simp only [Bool.and_eq_true] at hz
      exact .inl ⟨_, _, rfl, .inr q, flat_of ra hz.1, flats_of l hz.2, (inV_of ra hz.1 l hz.2).symm⟩
    · split at e <;> cases e
      rename_i hz
      simp only [Bool.and_eq_true] at hz
      refine .inr ⟨_, _, ra.dp hz.1, .inr ⟨?_, ?_⟩, shaped_of hz.1, rfl⟩
      · have := (Rp.tup s q l).dp hz.2
        simpa only [toPy] using this
      · have := shaped_of hz.2
        simpa only [toPy] using this
  | lst s q l =>
    simp only [dIn] at e
    split at e
    · rename_i hz
      cases e
      simp only [Bool.and_eq_true] at hz
      exact .inl ⟨_, _, rfl, .inl (SqL.of q), flat_of ra hz.1, flats_of l hz.2, (inV_of ra hz.1 l hz.2).symm⟩
    · split at e <;> cases e
      rename_i hz
      simp only [Bool.and_eq_true] at hz
      refine .inr ⟨_, _, ra.dp hz.1, .inl ⟨?_, ?_⟩, shaped_of hz.1, rfl⟩
      · have := (Rp.lst s q l).dp hz.2
        simpa only [toPy] using this
      · have := shaped_of hz.2
        simpa only [toPy] using this
  | _ => cases e
theorem d_in : OpD G gIn (rInA G.K) := by
  intro Z S H env σ a b d x y Q o ra rb e k
  unfold gIn at e
  cases hc : dIn a b with
  | none => rw [hc] at e; cases e
  | some c =>
    rw [hc] at e; cases e
    rcases in_of ra rb hc with ⟨p, xs, h1, h2, h3, h4, h5⟩ | ⟨p, q, h1, h2, h3, h5⟩
    · exact .inl (.inl ⟨p, xs, h1, h2, h3, h4, by rw [← h5]; exact fin_of o k (.bl c)⟩)
    · rcases h2 with ⟨h2, h4⟩ | ⟨h2, h4⟩
      · exact .inl (.inr ⟨p, q, h1, h2, h3, h4, by rw [← h5]; exact fin_of o k (.bl c)⟩)
      · exact .inr ⟨p, q, h1, h2, h3, h4, by rw [← h5]; simpa using fin_of o k (.bl c)⟩
theorem d_notIn : OpD G gNotIn (rNotInA G.K) := by
  intro Z S H env σ a b d x y Q o ra rb e k
  unfold gNotIn at e
  cases hc : dIn a b with
  | none => rw [hc] at e; cases e
  | some c =>
    rw [hc] at e; cases e
    rcases in_of ra rb hc with ⟨p, xs, h1, h2, h3, h4, h5⟩ | ⟨p, q, h1, h2, h3, h5⟩
    · exact .inl (.inl ⟨p, xs, h1, h2, h3, h4, by rw [← h5]; exact fin_of o k (.bl (!c))⟩)
    · rcases h2 with ⟨h2, h4⟩ | ⟨h2, h4⟩
      · exact .inl (.inr ⟨p, q, h1, h2, h3, h4, by rw [← h5]; exact fin_of o k (.bl (!c))⟩)
      · exact .inr ⟨p, q, h1, h2, h3, h4, by rw [← h5]; simpa using fin_of o k (.bl (!c))⟩

/-! ### items -/
def strOf (c : Nat) : Str := ⟨#[c]⟩
def keyB : D → D → Bool
  | .int a, .int b => decide (a = b)
  | .str a, .str b => decide (a = b)
  | _, _ => false
def dLook : List (D × D) → D → Option D
  | [], _ => none
  | p :: r, k => if keyB p.1 k then some p.2 else dLook r k
def isKey : D → Bool
  | .int _ => true
  | .str _ => true
  | _ => false
theorem keyB_iff {k j : Key} : keyB (keyD k) (keyD j) = decide (k = j) := by
  cases k <;> cases j <;> simp [keyD, keyB]
theorem dLook_rp {ds : List (D × D)} {kvs : List (Key × V)} {j : Key} {d : D} (h : RpD G S H ds kvs) (e : dLook ds (keyD j) = some d) : ∃ v, valV kvs j = some v ∧ Rp G S H d v := by
  induction ds generalizing kvs with
  | nil => cases e
  | cons p r ih =>
    cases h with
    | @cons k d' _ v vs h1 h2 =>
      unfold dLook at e
      by_cases z : k = j
      · rw [if_pos (by rw [keyB_iff, decide_eq_true z])] at e
        cases e
        exact ⟨v, valV_pos (p := (k, v)) z, h1⟩
      · rw [if_neg (by rw [keyB_iff, decide_eq_false z]; decide)] at e
        rw [valV_neg (p := (k, v)) z]
        exact ih h2 e
def gIx : D → D → Option D
  | .dct kvs, .int i => dLook kvs (.int i)
  | .dct kvs, .str z => dLook kvs (.str z)
  | .lst xs, .int i => atI xs i
  | .rol xs, .int i => atI xs i
  | .tup xs, .int i => atI xs i
  | .str z, .int i => if fits z.length then (atI z.cps.toList i).map fun c => .str (strOf c) else none
  | _, _ => none
theorem atI_rp {ds : List D} {vs : List V} {i : Int} {d : D} (h : RpL G S H ds vs) (e : atI ds i = some d) : ∃ v, atI vs i = some v ∧ Rp G S H d v := by
  unfold atI at e ⊢
  rw [h.length]
  cases q : ixN ds.length i with
  | none => rw [q] at e; cases e
  | some j =>
    rw [q] at e
    exact h.get (i := j) e
def rIxA (K : PySem.W.Frag) : R2 := fun x y H Q => ((rIxL K x y H Q ∨ rIxT K x y H Q) ∨ rIxS x y H Q) ∨ rIxDct x y H Q
theorem ix_or {X : Cx} {r r' : R2} (h : IxR X r) (h' : IxR X r') : IxR X (fun x y H Q => r x y H Q ∨ r' x y H Q) := by
  intro value slice pins s σ H x y v u Q I rx ry q hs
  rcases q with q | q
  · exact h value slice pins s σ H x y v u Q I rx ry q hs
  · exact h' value slice pins s σ H x y v u Q I rx ry q hs
theorem ix_A {X : Cx} : IxR X (rIxA X.K) := ix_or (ix_or (ix_or ix_list ix_tup) ix_str) ix_dct
theorem d_ix : OpD G gIx (rIxA G.K) := by
  intro Z S H env σ a b d x y Q o ra rb e k
  cases ra <;> cases rb <;> simp only [gIx] at e <;> try contradiction
  · split at e
    · rename_i z i hz
      cases q : atI z.cps.toList i with
      | none => rw [q] at e; cases e
      | some c =>
        rw [q] at e; cases e
        exact .inl (.inr ⟨z, i, c, rfl, rfl, fits_line hz, q, fin_of o k (.str _)⟩)
    · cases e
  · rename_i s q l i
    obtain ⟨v, h1, h2⟩ := atI_rp l e
    exact .inl (.inl (.inr ⟨_, _, _, _, rfl, rfl, q, h1, fin_of o k h2⟩))
  · rename_i s q l i
    obtain ⟨v, h1, h2⟩ := atI_rp l e
    exact .inl (.inl (.inl ⟨_, _, _, _, rfl, rfl, SqL.of q, h1, fin_of o k h2⟩))
  · rename_i s q l i
    obtain ⟨v, h1, h2⟩ := atI_rp l e
    exact .inl (.inl (.inl ⟨_, _, _, _, rfl, rfl, q, h1, fin_of o k h2⟩))
  · rename_i s q l i
    obtain ⟨v, h1, h2⟩ := dLook_rp (j := .inl i) l e
    exact .inr ⟨_, _, .inl i, _, rfl, q, rfl, h1, fin_of o k h2⟩
  · rename_i s q l i
    obtain ⟨v, h1, h2⟩ := dLook_rp (j := .inr i) l e
    exact .inr ⟨_, _, .inr i, _, rfl, q, rfl, h1, fin_of o k h2⟩
end
end PL

namespace PL
open PySem PySem.Spec PyProof.Rows L2

/-! ### sorted of tuples of small numbers, all of one length -/
def bnC : Int := 4294967296
def insC (x : List Int) : List (List Int) → List (List Int)
  | [] => [x]
  | y :: r => if TS.code bnC x ≤ TS.code bnC y then x :: y :: r else y :: insC x r
def srtC : List (List Int) → List (List Int)
  | [] => []
  | x :: r => insC x (srtC r)
theorem insC_perm (x : List Int) : ∀ r : List (List Int), (insC x r).Perm (x :: r)
  | [] => List.Perm.refl _
  | y :: r => by
    unfold insC
    split
    · exact List.Perm.refl _
    · exact ((insC_perm x r).cons y).trans (List.Perm.swap x y r)
theorem srtC_perm : ∀ r : List (List Int), (srtC r).Perm r
  | [] => List.Perm.refl _
  | x :: r => (insC_perm x _).trans ((srtC_perm r).cons x)
def leC (x y : List Int) : Prop := TS.code bnC x ≤ TS.code bnC y
theorem insC_sorted {x : List Int} : ∀ {r : List (List Int)}, r.Pairwise leC → (insC x r).Pairwise leC
  | [], _ => List.pairwise_singleton _ _
  | y :: r, h => by
    unfold insC
    obtain ⟨h1, h2⟩ := List.pairwise_cons.mp h
    split
    · rename_i hxy
      refine List.pairwise_cons.mpr ⟨fun z hz => ?_, h⟩
      rcases List.mem_cons.mp hz with e | hz
      · subst e; exact hxy
      · exact Int.le_trans hxy (h1 z hz)
    · rename_i hxy
      refine List.pairwise_cons.mpr ⟨fun z hz => ?_, insC_sorted h2⟩
      rcases List.mem_cons.mp ((insC_perm x r).mem_iff.mp hz) with e | hz
      · subst e; unfold leC; omega
      · exact h1 z hz
theorem srtC_sorted : ∀ r : List (List Int), (srtC r).Pairwise leC
  | [] => List.Pairwise.nil
  | x :: r => insC_sorted (srtC_sorted r)
theorem code_same : ∀ {a b : List Int}, TS.Bd bnC a → TS.Bd bnC b → a.length = b.length → TS.code bnC a = TS.code bnC b → a = b
  | [], [], _, _, _, _ => rfl
  | [], _ :: _, _, _, h, _ => by simp at h
  | _ :: _, [], _, _, h, _ => by simp at h
  | x :: a, y :: b, ha, hb, hl, hc => by
    have hl' : a.length = b.length := by simpa using hl
    have e : x = y := by
      rcases Int.lt_trichotomy x y with z | z | z
      · have := TS.code_lt (d := x) (e := y) hl' ha.tail hb.tail z; omega
      · exact z
      · have := TS.code_lt (d := y) (e := x) hl'.symm hb.tail ha.tail z; omega
    subst e
    have hc' : x * bnC ^ a.length + TS.code bnC a = x * bnC ^ b.length + TS.code bnC b := hc
    rw [hl'] at hc'
    rw [code_same ha.tail hb.tail hl' (by omega)]
def okC (d : Nat) (ns : List Int) : Prop := ns.length = d ∧ TS.Bd bnC ns
theorem map_code_inj {d : Nat} : ∀ {a b : List (List Int)}, (∀ x ∈ a, okC d x) → (∀ x ∈ b, okC d x) → a.map (TS.code bnC) = b.map (TS.code bnC) → a = b
  | [], [], _, _, _ => rfl
  | [], _ :: _, _, _, h => by simp at h
  | _ :: _, [], _, _, h => by simp at h
  | x :: a, y :: b, ha, hb, h => by
    simp only [List.map_cons, List.cons.injEq] at h
    have hx := ha x (List.mem_cons_self ..)
    have hy := hb y (List.mem_cons_self ..)
    rw [code_same hx.2 hy.2 (by rw [hx.1, hy.1]) h.1, map_code_inj (fun z hz => ha z (List.mem_cons_of_mem _ hz)) (fun z hz => hb z (List.mem_cons_of_mem _ hz)) h.2]
theorem srtC_eq {d : Nat} {ns ms : List (List Int)} (ho : ∀ x ∈ ns, okC d x) (hp : ms.Perm ns) (hs : ms.Pairwise leC) : ms = srtC ns := by
  have pm := srtC_perm ns
  refine map_code_inj (d := d) (fun x hx => ho x (hp.mem_iff.mp hx)) (fun x hx => ho x (pm.mem_iff.mp hx)) ?_
  refine PySem.W.ksm_same ((hp.trans pm.symm).map _) ?_ ?_
  · exact List.pairwise_map.mpr hs
  · exact List.pairwise_map.mpr (srtC_sorted ns)
def asTups : List D → Option (List (List Int))
  | [] => some []
  | .tup xs :: r => match asInts xs, asTups r with
    | some ns, some nss => some (ns :: nss)
    | _, _ => none
  | _ :: _ => none
def bdB (ns : List Int) : Bool := ns.all fun m => decide (0 ≤ m) && decide (m < bnC)
def srtT (xs : List D) : Option (List D) := match asTups xs with
  | some (n :: nss) => if decide ((n :: nss).length < 64) && decide (1 ≤ n.length) && ((n :: nss).all fun m => decide (m.length = n.length) && bdB m) then some ((srtC (n :: nss)).map fun m => .tup (m.map .int)) else none
  | _ => none
section
variable {G : Gx} {S : Pr} {H : Hp}
/-- one by one -/
inductive TL (G : Gx) (S : Pr) (H : Hp) : List (List Int) → List V → Prop
  | nil : TL G S H [] []
  | cons {n : List Int} {ns : List (List Int)} {v : V} {vs : List V} : Rp G S H (.tup (n.map .int)) v → TL G S H ns vs → TL G S H (n :: ns) (v :: vs)
theorem TL.of : ∀ {xs : List D} {vs : List V} {ns : List (List Int)}, asTups xs = some ns → RpL G S H xs vs → TL G S H ns vs
  | [], _, _, e, .nil => by cases e; exact .nil
  | d :: ds, _, _, e, .cons h t => by
    cases d <;> simp only [asTups] at e <;> try contradiction
    rename_i xs
    split at e <;> cases e
    rename_i ns nss h1 h2
    refine .cons ?_ (TL.of h2 t)
    cases h with | tup s q l => obtain ⟨_, e2⟩ := asInts_of h1 l; rw [e2] at l; exact .tup s q l
theorem TL.rp : ∀ {ns : List (List Int)} {vs : List V}, TL G S H ns vs → RpL G S H (ns.map fun m => D.tup (m.map .int)) vs
  | _, _, .nil => .nil
  | _, _, .cons h t => .cons h (TL.rp t)
theorem TL.perm {vs ys : List V} (p : ys.Perm vs) : ∀ {ns : List (List Int)}, TL G S H ns vs → ∃ ms, ms.Perm ns ∧ TL G S H ms ys := by
  induction p with
  | nil => intro ns h; exact ⟨ns, List.Perm.refl _, h⟩
  | cons x _ ih =>
    intro ns h
    cases h with | cons a t => obtain ⟨ms, p, r⟩ := ih t; exact ⟨_, p.cons _, .cons a r⟩
  | swap x y l =>
    intro ns h
    cases h with | cons a t => cases t with | cons b t => exact ⟨_, List.Perm.swap _ _ _, .cons b (.cons a t)⟩
  | trans _ _ ih1 ih2 =>
    intro ns h
    obtain ⟨ms, p, r⟩ := ih2 h
    obtain ⟨ls, p2, r2⟩ := ih1 r
    exact ⟨ls, p2.trans p, r2⟩
theorem TL.tupI {n : List Int} {v : V} (h : Rp G S H (.tup (n.map .int)) v) : TupI G.K H v n := by
  cases h with | tup s q l =>
    have e : asInts (n.map D.int) = some n := asInts_map n
    obtain ⟨f1, _⟩ := asInts_of e l
    subst f1
    exact ⟨_, rfl, q⟩
theorem TL.mem {v : V} : ∀ {ns : List (List Int)} {vs : List V}, TL G S H ns vs → v ∈ vs → ∃ n ∈ ns, TupI G.K H v n
  | _, _, .nil, h => by cases h
  | _, _, .cons (n := n) a t, h => by
    rcases List.mem_cons.mp h with e | h
    · subst e; exact ⟨n, List.mem_cons_self .., TL.tupI a⟩
    · obtain ⟨m, h1, h2⟩ := TL.mem t h; exact ⟨m, List.mem_cons_of_mem _ h1, h2⟩
theorem TL.mem' {n : List Int} : ∀ {ns : List (List Int)} {vs : List V}, TL G S H ns vs → n ∈ ns → ∃ v ∈ vs, TupI G.K H v n
  | _, _, .nil, h => by cases h
  | _, _, .cons (v := v) a t, h => by
    rcases List.mem_cons.mp h with e | h
    · subst e; exact ⟨v, List.mem_cons_self .., TL.tupI a⟩
    · obtain ⟨m, h1, h2⟩ := TL.mem' t h; exact ⟨m, List.mem_cons_of_mem _ h1, h2⟩
theorem TL.pair : ∀ {ns : List (List Int)} {vs : List V}, TL G S H ns vs → vs.Pairwise (fun x y => ∀ n m, TupI G.K H x n → TupI G.K H y m → TS.code bnC n ≤ TS.code bnC m) → ns.Pairwise leC
  | _, _, .nil, _ => List.Pairwise.nil
  | _, _, .cons a t, h => by
    obtain ⟨h1, h2⟩ := List.pairwise_cons.mp h
    refine List.pairwise_cons.mpr ⟨fun m hm => ?_, TL.pair t h2⟩
    obtain ⟨v, hv, e⟩ := TL.mem' t hm
    exact h1 v hv _ _ (TL.tupI a) e
theorem TL.len : ∀ {ns : List (List Int)} {vs : List V}, TL G S H ns vs → vs.length = ns.length
  | _, _, .nil => rfl
  | _, _, .cons _ t => congrArg Nat.succ (TL.len t)
theorem srtT_ok {xs ds : List D} {vs : List V} (e : srtT xs = some ds) (r : RpL G S H xs vs) : ∃ d, 1 ≤ d ∧ vs.length < 64 ∧ (∀ x ∈ vs, ∃ ns, TupI G.K H x ns ∧ ns.length = d ∧ TS.Bd bnC ns) ∧
    ∀ ys : List V, ys.Perm vs → ys.Pairwise (fun x y => ∀ n m, TupI G.K H x n → TupI G.K H y m → TS.code bnC n ≤ TS.code bnC m) → RpL G S H ds ys := by
  unfold srtT at e
  split at e <;> try contradiction
  rename_i n nss hT
  split at e <;> cases e
  rename_i hb
  simp only [Bool.and_eq_true, decide_eq_true_eq, List.all_eq_true] at hb
  obtain ⟨⟨b1, b2⟩, b3⟩ := hb
  have tl := TL.of hT r
  have ok : ∀ m ∈ n :: nss, okC n.length m := fun m hm => by
    obtain ⟨h1, h2⟩ := b3 m hm
    refine ⟨h1, fun z hz => ?_⟩
    unfold bdB at h2
    have := List.all_eq_true.mp h2 z hz
    simpa using this
  refine ⟨n.length, b2, by rw [tl.len]; exact b1, fun x hx => ?_, fun ys p pw => ?_⟩
  · obtain ⟨m, hm, ht⟩ := tl.mem hx
    exact ⟨m, ht, (ok m hm).1, (ok m hm).2⟩
  · obtain ⟨ms, pm, tm⟩ := TL.perm p tl
    rw [← srtC_eq ok pm (tm.pair pw)]
    exact tm.rp
end
end PL

namespace PL
open PySem PySem.Spec PyProof.Rows L2

/-! ### built-ins over tuples -/
section
variable {prog : Program} {w : World} {A : Around} {E : Value → Shared → Prop} {s : Shared} {t : Addr} {xs : Array (Int × Tok)}
theorem iter_tupInts {Q : Value → Shared → Prop} (ht : s.heap.IsTuple t (intItems xs))
    (h : ∀ s2 : Shared, s2 = { s with heap := s.heap.push { cls := .type "tuple_iterator", data := .fields #[.ref t, .int 0 0] } } →
      (s2.heap.IsTupleIter s.heap.objs.size t 0 ∧ s2.heap.IsTuple t (intItems xs)) → (∀ b ∈ [s.heap.objs.size, t], b < s2.heap.objs.size) → t ≠ s.heap.objs.size → Q (.ref s.heap.objs.size) s2) :
    wpAny (model prog w) A (pyIter (.ref t)) Q E s := by
  have hlt : t < s.heap.objs.size := by obtain ⟨_, e, _⟩ := ht; exact Heap.lt_size e
  refine wpAny_pyIter_tuple ht (h _ rfl ⟨⟨_, Heap.get?_push_size _ rfl, rfl, rfl⟩, ?_⟩ (fun b hb => ?_) (Nat.ne_of_lt hlt))
  · obtain ⟨o, e, r⟩ := ht
    exact ⟨o, Heap.get?_push_of_some _ e, r⟩
  · show b < (s.heap.push _).objs.size
    rw [Heap.size_push]
    rcases List.mem_cons.mp hb with e | hb
    · subst e; exact Nat.lt_succ_self _
    · have e : b = t := by simpa using hb
      subst e; exact Nat.lt_succ_of_lt hlt
theorem kept_push {h h' : Heap} {o : Obj} (hk : ∀ b ob, b ∉ [h.objs.size] → (h.push o).get? b = some ob → h'.get? b = some ob) : ∀ b ob, h.get? b = some ob → h'.get? b = some ob := fun b ob e =>
  hk b ob (by simpa using Nat.ne_of_lt (Heap.lt_size e)) (Heap.get?_push_of_some _ e)
theorem sum_tupG {Q : Value → Shared → Prop} (hh : A.handled = none) (ht : s.heap.IsTuple t (intItems xs))
    (h : ∀ h' tk t', (∀ b o, s.heap.get? b = some o → h'.get? b = some o) → Q (.int (preSum (numAt xs) xs.size) t') { s with heap := h', toks := tk }) :
    wpAny (model prog w) A (call (.builtin "sum") [.ref t]) Q E s := by
  refine call_sum_walkG (iter_tupInts ht fun s2 e st hfp hne => ?_)
  subst e
  refine ⟨_, _, _, _, _, _, numAt xs, rfl, Walks.tuple (A := A.in1) hh _ t hne (intItems xs), st, hfp, (fun _ _ => intItems_at), fun h' tk t' hk => ?_⟩
  have := h h' tk t' (kept_push hk)
  simpa [intItems] using this
theorem max_tupG {Q : Value → Shared → Prop} (hh : A.handled = none) (ht : s.heap.IsTuple t (intItems xs)) (hne : 0 < xs.size)
    (h : ∀ v h' tk, (intItems xs)[argBest (fun i j => decide (numAt xs i > numAt xs j)) (xs.size - 1)]? = some v → (∀ b o, s.heap.get? b = some o → h'.get? b = some o) → Q v { s with heap := h', toks := tk }) :
    wpAny (model prog w) A (call (.builtin "max") [.ref t]) Q E s := by
  refine call_max_walk (iter_tupInts ht fun s2 e st hfp hn => ?_)
  subst e
  refine ⟨_, _, _, _, _, _, _, rfl, Walks.tuple (A := A.in1) hh _ t hn (intItems xs), st, hfp, by simpa [intItems] using hne, CmpOf.ints_gt (numAt xs) (fun _ _ => intItems_at), fun v h' tk hP hk => ?_⟩
  exact h v h' tk (by simpa [intItems] using hP) (kept_push hk)
theorem min_tupG {Q : Value → Shared → Prop} (hh : A.handled = none) (ht : s.heap.IsTuple t (intItems xs)) (hne : 0 < xs.size)
    (h : ∀ v h' tk, (intItems xs)[argBest (fun i j => decide (numAt xs i < numAt xs j)) (xs.size - 1)]? = some v → (∀ b o, s.heap.get? b = some o → h'.get? b = some o) → Q v { s with heap := h', toks := tk }) :
    wpAny (model prog w) A (call (.builtin "min") [.ref t]) Q E s := by
  refine call_min_walk (iter_tupInts ht fun s2 e st hfp hn => ?_)
  subst e
  refine ⟨_, _, _, _, _, _, _, rfl, Walks.tuple (A := A.in1) hh _ t hn (intItems xs), st, hfp, by simpa [intItems] using hne, CmpOf.ints_lt (numAt xs) (fun _ _ => intItems_at), fun v h' tk hP hk => ?_⟩
  exact h v h' tk (by simpa [intItems] using hP) (kept_push hk)
theorem bestMax_eq {ns : List Int} {m : Int} (hm : m ∈ ns) (hle : ∀ y ∈ ns, y ≤ m) : ∀ d, ns.foldl max d = max d m := by
  induction ns with
  | nil => cases hm
  | cons n r ih =>
    intro d
    rw [List.foldl_cons]
    have h1 := hle n (List.mem_cons_self ..)
    rcases List.mem_cons.mp hm with e | hm'
    · subst e
      clear ih
      have : ∀ (r : List Int) (d : Int), (∀ y ∈ r, y ≤ d) → r.foldl max d = d := by
        intro r
        induction r with
        | nil => intro d _; rfl
        | cons a r ih => intro d h; rw [List.foldl_cons, Int.max_eq_left (h a (List.mem_cons_self ..))]; exact ih d fun y hy => h y (List.mem_cons_of_mem _ hy)
      exact this r _ fun y hy => Int.le_trans (hle y (List.mem_cons_of_mem _ hy)) (Int.le_max_right ..)
    · rw [ih hm' fun y hy => hle y (List.mem_cons_of_mem _ hy), Int.max_assoc, Int.max_eq_right h1]
theorem bestMin_eq {ns : List Int} {m : Int} (hm : m ∈ ns) (hle : ∀ y ∈ ns, m ≤ y) : ∀ d, ns.foldl min d = min d m := by
  induction ns with
  | nil => cases hm
  | cons n r ih =>
    intro d
    rw [List.foldl_cons]
    have h1 := hle n (List.mem_cons_self ..)
    rcases List.mem_cons.mp hm with e | hm'
    · subst e
      clear ih
      have : ∀ (r : List Int) (d : Int), (∀ y ∈ r, d ≤ y) → r.foldl min d = d := by
        intro r
        induction r with
        | nil => intro d _; rfl
        | cons a r ih => intro d h; rw [List.foldl_cons, Int.min_eq_left (h a (List.mem_cons_self ..))]; exact ih d fun y hy => h y (List.mem_cons_of_mem _ hy)
      exact this r _ fun y hy => Int.le_trans (Int.min_le_right ..) (hle y (List.mem_cons_of_mem _ hy))
    · rw [ih hm' fun y hy => hle y (List.mem_cons_of_mem _ hy), Int.min_assoc, Int.min_eq_right h1]
end
def maxI : List Int → Int
  | [] => 0
  | n :: r => r.foldl max n
def minI : List Int → Int
  | [] => 0
  | n :: r => r.foldl min n
theorem maxI_eq {ns : List Int} {m : Int} (hm : m ∈ ns) (hle : ∀ y ∈ ns, y ≤ m) : maxI ns = m := by
  cases ns with
  | nil => cases hm
  | cons n r =>
    have h := bestMax_eq hm hle n
    rw [List.foldl_cons, Int.max_self] at h
    show r.foldl max n = m
    rw [h]; exact Int.max_eq_right (hle n (List.mem_cons_self ..))
theorem minI_eq {ns : List Int} {m : Int} (hm : m ∈ ns) (hle : ∀ y ∈ ns, m ≤ y) : minI ns = m := by
  cases ns with
  | nil => cases hm
  | cons n r =>
    have h := bestMin_eq hm hle n
    rw [List.foldl_cons, Int.min_self] at h
    show r.foldl min n = m
    rw [h]; exact Int.min_eq_right (hle n (List.mem_cons_self ..))

section
variable {X : Cx}
def rSumT (K : PySem.W.Frag) : List V → Hp → VK → Prop := fun vs H Q => ∃ (a : Addr) (ns : List Int), vs = [V.ref a] ∧ SqT K H a (ns.map V.int) ∧ Q (.int ns.sum) H
def rMaxT (K : PySem.W.Frag) : List V → Hp → VK → Prop := fun vs H Q => ∃ (a : Addr) (ns : List Int), vs = [V.ref a] ∧ SqT K H a (ns.map V.int) ∧ 0 < ns.length ∧ Q (.int (maxI ns)) H
def rMinT (K : PySem.W.Frag) : List V → Hp → VK → Prop := fun vs H Q => ∃ (a : Addr) (ns : List Int), vs = [V.ref a] ∧ SqT K H a (ns.map V.int) ∧ 0 < ns.length ∧ Q (.int (minI ns)) H
theorem tupInts {pins : List (Addr × Obj)} {σ : L2.St} {H : Hp} {s : Shared} {a : Addr} {ns : List Int} (I : L2.Inv X pins σ H s) (h : SqT X.K H a (ns.map V.int)) : ∃ xs : Array (Int × Tok), s.heap.IsTuple a (intItems xs) ∧ xs.toList.map (·.1) = ns := by
  obtain ⟨its, r, ht, _⟩ := I.tuple h
  have hi : IntsAre its ns := r.ints
  obtain ⟨xs, e⟩ := hi.allInts.items
  have hn : numsOf (intItems xs).toList = ns := by rw [← e]; exact hi.numsOf
  rw [nums_intItems] at hn
  have ht' : s.heap.IsTuple a its.toArray := ht
  rw [e] at ht'
  exact ⟨xs, ht', hn⟩
theorem cr_sumT (hc : X.calm = true) : CallR X (.builtin "sum") (rSumT X.K) := by
  intro pins s σ H vs us Q I r ⟨a, ns, ev, hs, q⟩
  subst ev
  obtain ⟨xs, ht, hn⟩ := tupInts I hs
  rw [Vals.ref1 r]
  refine sum_tupG (I.ok.hd hc) ht fun h' tk t' hk => ⟨.int _, H, I.kept hk, ⟨t', rfl⟩, ?_⟩
  rw [preSum_eq, List.take_of_length_le (by simp), hn]
  exact q
theorem cr_maxT (hc : X.calm = true) : CallR X (.builtin "max") (rMaxT X.K) := by
  intro pins s σ H vs us Q I r ⟨a, ns, ev, hs, hne, q⟩
  subst ev
  obtain ⟨xs, ht, hn⟩ := tupInts I hs
  rw [Vals.ref1 r]
  subst hn
  have hsz : 0 < xs.size := by simpa using hne
  refine max_tupG (I.ok.hd hc) ht hsz fun v h' tk hv hk => ?_
  obtain ⟨t, rfl⟩ := intItems_at hv
  obtain ⟨h1, h2⟩ := argBest_gt (numAt xs) (xs.size - 1)
  refine ⟨.int _, H, I.kept hk, ⟨t, rfl⟩, ?_⟩
  rw [← maxI_eq (ns := xs.toList.map (·.1)) (m := numAt xs (argBest (fun i j => decide (numAt xs i > numAt xs j)) (xs.size - 1))) ?_ ?_]
  · exact q
  · rw [numAt_eq]; exact PySem.getD_mem (by rw [List.length_map, Array.length_toList]; omega)
  · intro y hy
    obtain ⟨j, hj, rfl⟩ := mem_getD hy
    rw [List.length_map, Array.length_toList] at hj
    rw [← numAt_eq]; exact h2 j (by omega)
theorem cr_minT (hc : X.calm = true) : CallR X (.builtin "min") (rMinT X.K) := by
  intro pins s σ H vs us Q I r ⟨a, ns, ev, hs, hne, q⟩
  subst ev
  obtain ⟨xs, ht, hn⟩ := tupInts I hs
  rw [Vals.ref1 r]
  subst hn
  have hsz : 0 < xs.size := by simpa using hne
  refine min_tupG (I.ok.hd hc) ht hsz fun v h' tk hv hk => ?_
  obtain ⟨t, rfl⟩ := intItems_at hv
  obtain ⟨h1, h2⟩ := argBest_lt (numAt xs) (xs.size - 1)
  refine ⟨.int _, H, I.kept hk, ⟨t, rfl⟩, ?_⟩
  rw [← minI_eq (ns := xs.toList.map (·.1)) (m := numAt xs (argBest (fun i j => decide (numAt xs i < numAt xs j)) (xs.size - 1))) ?_ ?_]
  · exact q
  · rw [numAt_eq]; exact PySem.getD_mem (by rw [List.length_map, Array.length_toList]; omega)
  · intro y hy
    obtain ⟨j, hj, rfl⟩ := mem_getD hy
    rw [List.length_map, Array.length_toList] at hj
    rw [← numAt_eq]; exact h2 j (by omega)
end

/-! ### built-ins by data -/
section
variable {G : Gx} {Z : Zx} {S : Pr} {H : Hp} {env : Env} {σ : L2.St} {Q : VK} {d : D}
def gLen : List D → Option D
  | [.tup xs] => some (.int xs.length)
  | [.lst xs] => some (.int xs.length)
  | [.rol xs] => some (.int xs.length)
  | [.str x] => if fits x.length then some (.int x.length) else none
  | [.dct xs] => some (.int xs.length)
  | _ => none
theorem rpd_len : ∀ {ds : List (D × D)} {kvs : List (Key × V)}, RpD G S H ds kvs → kvs.length = ds.length
  | _, _, .nil => rfl
  | _, _, .cons _ t => congrArg Nat.succ (rpd_len t)
def rLenA (K : PySem.W.Frag) : List V → Hp → VK → Prop := fun xs H Q => (∃ x n, xs = [x] ∧ LenV K x H n ∧ Q (.int (n : Nat)) H) ∨ (∃ a kvs, xs = [V.ref a] ∧ H a = some (.dK kvs) ∧ Q (.int kvs.length) H)
theorem call_lenA {X : Cx} : CallR X (.builtin "len") (rLenA X.K) := by
  intro pins s σ H vs us Q I r h
  rcases h with h | h
  · exact call_len pins s σ H vs us Q I r h
  · exact call_lenD pins s σ H vs us Q I r h
theorem d_len : CallD G gLen (rLenA G.K) := by
  intro Z S H env σ as d xs Q o ra e k
  unfold gLen at e
  split at e <;> try contradiction
  · cases e; cases ra with | cons r t => cases t; cases r; rename_i s q l; exact .inl ⟨_, _, rfl, .inr ⟨_, q, l.length.symm⟩, fin_of o k (.int _)⟩
  · cases e; cases ra with | cons r t => cases t; cases r; rename_i s q l; exact .inl ⟨_, _, rfl, .inl ⟨_, SqL.of q, l.length.symm⟩, fin_of o k (.int _)⟩
  · cases e; cases ra with | cons r t => cases t; cases r; rename_i s q l; exact .inl ⟨_, _, rfl, .inl ⟨_, q, l.length.symm⟩, fin_of o k (.int _)⟩
  · split at e <;> cases e
    rename_i x hz
    cases ra with | cons r t => cases t; cases r; exact .inl ⟨_, _, rfl, ⟨fits_line hz, rfl⟩, fin_of o k (.int _)⟩
  · cases e; cases ra with | cons r t => cases t; cases r; rename_i s q l; exact .inr ⟨_, _, rfl, q, by rw [rpd_len l]; exact fin_of o k (.int _)⟩
def gAbs : List D → Option D
  | [.int i] => some (.int (if i < 0 then -i else i))
  | _ => none
theorem d_abs : CallD G gAbs (fun xs H Q => ∃ i, xs = [.int i] ∧ Q (.int (if i < 0 then -i else i)) H) := by
  intro Z S H env σ as d xs Q o ra e k
  unfold gAbs at e
  split at e <;> try contradiction
  cases e; cases ra with | cons r t => cases t; cases r; exact ⟨_, rfl, fin_of o k (.int _)⟩
def gInt : List D → Option D
  | [.int i] => some (.int i)
  | [.bl b] => some (.int (if b then 1 else 0))
  | _ => none
theorem d_int : CallD G gInt (fun xs H Q => (∃ i, xs = [.int i] ∧ Q (.int i) H) ∨ ∃ k, xs = [.bl k] ∧ Q (.int (if k then 1 else 0)) H) := by
  intro Z S H env σ as d xs Q o ra e k
  unfold gInt at e
  split at e <;> try contradiction
  · cases e; cases ra with | cons r t => cases t; cases r; exact .inl ⟨_, rfl, fin_of o k (.int _)⟩
  · cases e; cases ra with | cons r t => cases t; cases r; exact .inr ⟨_, rfl, fin_of o k (.int _)⟩
def gMax : List D → Option D
  | [.int i, .int j] => some (.int (if j > i then j else i))
  | [.lst xs] => match asInts xs with
    | some ns => if 0 < ns.length then some (.int (maxI ns)) else none
    | none => none
  | [.tup xs] => match asInts xs with
    | some ns => if 0 < ns.length then some (.int (maxI ns)) else none
    | none => none
  | _ => none
def rMaxA (K : PySem.W.Frag) : List V → Hp → VK → Prop := fun xs H Q => ((∃ i j, xs = [.int i, .int j] ∧ Q (.int (if j > i then j else i)) H) ∨ rMax K xs H Q) ∨ rMaxT K xs H Q
theorem call_maxA {X : Cx} (hc : X.calm = true) : CallR X (.builtin "max") (rMaxA X.K) := ((call_max2 hc).or (cr_max hc)).or (cr_maxT hc)
theorem d_max : CallD G gMax (rMaxA G.K) := by
  intro Z S H env σ as d xs Q o ra e k
  unfold gMax at e
  split at e <;> try contradiction
  · cases e; cases ra with | cons r t => cases t with | cons r2 t => cases t; cases r; cases r2; exact .inl (.inl ⟨_, _, rfl, fin_of o k (.int _)⟩)
  · split at e <;> try contradiction
    split at e <;> cases e
    cases ra with | cons r t => cases t; cases r; rename_i ns e1 hz _ _ s q l; obtain ⟨f1, _⟩ := asInts_of e1 l; subst f1; exact .inl (.inr ⟨_, ns, rfl, SqL.of q, hz, fun m hm hle => by rw [← maxI_eq hm hle]; exact fin_of o k (.int _)⟩)
  · split at e <;> try contradiction
    split at e <;> cases e
    cases ra with | cons r t => cases t; cases r; rename_i ns e1 hz _ _ s q l; obtain ⟨f1, _⟩ := asInts_of e1 l; subst f1; exact .inr ⟨_, ns, rfl, q, hz, fin_of o k (.int _)⟩
def gMin : List D → Option D
  | [.int i, .int j] => some (.int (if j < i then j else i))
  | [.lst xs] => match asInts xs with
    | some ns => if 0 < ns.length then some (.int (minI ns)) else none
    | none => none
  | [.tup xs] => match asInts xs with
    | some ns => if 0 < ns.length then some (.int (minI ns)) else none
    | none => none
  | _ => none
def rMinA (K : PySem.W.Frag) : List V → Hp → VK → Prop := fun xs H Q => ((∃ i j, xs = [.int i, .int j] ∧ Q (.int (if j < i then j else i)) H) ∨ rMin K xs H Q) ∨ rMinT K xs H Q
theorem call_minA {X : Cx} (hc : X.calm = true) : CallR X (.builtin "min") (rMinA X.K) := ((call_min2 hc).or (cr_min hc)).or (cr_minT hc)
theorem d_min : CallD G gMin (rMinA G.K) := by
  intro Z S H env σ as d xs Q o ra e k
  unfold gMin at e
  split at e <;> try contradiction
  · cases e; cases ra with | cons r t => cases t with | cons r2 t => cases t; cases r; cases r2; exact .inl (.inl ⟨_, _, rfl, fin_of o k (.int _)⟩)
  · split at e <;> try contradiction
    split at e <;> cases e
    cases ra with | cons r t => cases t; cases r; rename_i ns e1 hz _ _ s q l; obtain ⟨f1, _⟩ := asInts_of e1 l; subst f1; exact .inl (.inr ⟨_, ns, rfl, SqL.of q, hz, fun m hm hle => by rw [← minI_eq hm hle]; exact fin_of o k (.int _)⟩)
  · split at e <;> try contradiction
    split at e <;> cases e
    cases ra with | cons r t => cases t; cases r; rename_i ns e1 hz _ _ s q l; obtain ⟨f1, _⟩ := asInts_of e1 l; subst f1; exact .inr ⟨_, ns, rfl, q, hz, fin_of o k (.int _)⟩
def gSum : List D → Option D
  | [.lst xs] => (asInts xs).map fun ns => .int ns.sum
  | [.rol xs] => (asInts xs).map fun ns => .int ns.sum
  | [.tup xs] => (asInts xs).map fun ns => .int ns.sum
  | _ => none
def rSumA (K : PySem.W.Frag) : List V → Hp → VK → Prop := fun xs H Q => rSum K xs H Q ∨ rSumT K xs H Q
theorem call_sumA {X : Cx} (hc : X.calm = true) : CallR X (.builtin "sum") (rSumA X.K) := (cr_sum hc).or (cr_sumT hc)
theorem d_sum : CallD G gSum (rSumA G.K) := by
  intro Z S H env σ as d xs Q o ra e k
  unfold gSum at e
  split at e <;> try contradiction
  · rename_i ys
    cases q1 : asInts ys with
    | none => rw [q1] at e; cases e
    | some ns =>
      rw [q1] at e; cases e
      cases ra with | cons r t => cases t; cases r; rename_i s q l; obtain ⟨f1, _⟩ := asInts_of q1 l; subst f1; exact .inl ⟨_, ns, rfl, SqL.of q, fin_of o k (.int _)⟩
  · rename_i ys
    cases q1 : asInts ys with
    | none => rw [q1] at e; cases e
    | some ns =>
      rw [q1] at e; cases e
      cases ra with | cons r t => cases t; cases r; rename_i s q l; obtain ⟨f1, _⟩ := asInts_of q1 l; subst f1; exact .inl ⟨_, ns, rfl, q, fin_of o k (.int _)⟩
  · rename_i ys
    cases q1 : asInts ys with
    | none => rw [q1] at e; cases e
    | some ns =>
      rw [q1] at e; cases e
      cases ra with | cons r t => cases t; cases r; rename_i s q l; obtain ⟨f1, _⟩ := asInts_of q1 l; subst f1; exact .inr ⟨_, ns, rfl, q, fin_of o k (.int _)⟩
def asBls : List D → Option (List Bool)
  | [] => some []
  | .bl i :: r => (asBls r).map (i :: ·)
  | _ :: _ => none
theorem asBls_of : ∀ {ds : List D} {vs : List V} {ns : List Bool}, asBls ds = some ns → RpL G S H ds vs → vs = ns.map V.bl
  | [], _, _, e, .nil => by cases e; rfl
  | d :: ds, _, _, e, .cons h t => by
    cases d <;> simp only [asBls] at e <;> try contradiction
    cases h
    cases q : asBls ds with
    | none => rw [q] at e; cases e
    | some r =>
      rw [q] at e; cases e
      rw [asBls_of q t]; rfl
def gAll : List D → Option D
  | [.lst xs] => (asBls xs).map fun bs => .bl (bs.all id)
  | _ => none
def gAny : List D → Option D
  | [.lst xs] => (asBls xs).map fun bs => .bl (bs.any id)
  | _ => none
theorem d_all : CallD G gAll (rAll G.K) := by
  intro Z S H env σ as d xs Q o ra e k
  unfold gAll at e
  split at e <;> try contradiction
  rename_i ys
  cases q1 : asBls ys with
  | none => rw [q1] at e; cases e
  | some bs =>
    rw [q1] at e; cases e
    cases ra with | cons r t => cases t; cases r; rename_i s q l; have f1 := asBls_of q1 l; subst f1; exact ⟨_, bs, rfl, SqL.of q, fin_of o k (.bl _)⟩
theorem d_any : CallD G gAny (rAny G.K) := by
  intro Z S H env σ as d xs Q o ra e k
  unfold gAny at e
  split at e <;> try contradiction
  rename_i ys
  cases q1 : asBls ys with
  | none => rw [q1] at e; cases e
  | some bs =>
    rw [q1] at e; cases e
    cases ra with | cons r t => cases t; cases r; rename_i s q l; have f1 := asBls_of q1 l; subst f1; exact ⟨_, bs, rfl, SqL.of q, fin_of o k (.bl _)⟩
/-! sorting -/
def insI (x : Int) : List Int → List Int
  | [] => [x]
  | y :: r => if x ≤ y then x :: y :: r else y :: insI x r
def srtI : List Int → List Int
  | [] => []
  | x :: r => insI x (srtI r)
theorem insI_perm (x : Int) : ∀ r : List Int, (insI x r).Perm (x :: r)
  | [] => List.Perm.refl _
  | y :: r => by
    unfold insI
    split
    · exact List.Perm.refl _
    · exact ((insI_perm x r).cons y).trans (List.Perm.swap x y r)
theorem srtI_perm : ∀ r : List Int, (srtI r).Perm r
  | [] => List.Perm.refl _
  | x :: r => (insI_perm x _).trans ((srtI_perm r).cons x)
theorem insI_sorted {x : Int} : ∀ {r : List Int}, r.Pairwise (· ≤ ·) → (insI x r).Pairwise (· ≤ ·)
  | [], _ => List.pairwise_singleton _ _
  | y :: r, h => by
    unfold insI
    obtain ⟨h1, h2⟩ := List.pairwise_cons.mp h
    split
    · rename_i hxy
      refine List.pairwise_cons.mpr ⟨fun z hz => ?_, h⟩
      rcases List.mem_cons.mp hz with e | hz
      · subst e; exact hxy
      · exact Int.le_trans hxy (h1 z hz)
    · rename_i hxy
      refine List.pairwise_cons.mpr ⟨fun z hz => ?_, insI_sorted h2⟩
      rcases List.mem_cons.mp ((insI_perm x r).mem_iff.mp hz) with e | hz
      · subst e; omega
      · exact h1 z hz
theorem srtI_sorted : ∀ r : List Int, (srtI r).Pairwise (· ≤ ·)
  | [] => List.Pairwise.nil
  | x :: r => insI_sorted (srtI_sorted r)
theorem srtI_eq {ns ms : List Int} (hp : ms.Perm ns) (hs : ms.Pairwise (· ≤ ·)) : ms = srtI ns := PySem.W.ksm_same (hp.trans (srtI_perm ns).symm) hs (srtI_sorted ns)
theorem rpl_ints (ns : List Int) : RpL G S H (ns.map D.int) (ns.map V.int) := by
  induction ns with
  | nil => exact .nil
  | cons n r ih => exact .cons (.int n) ih
def rSortV (K : PySem.W.Frag) : List V → Hp → VK → Prop := fun vs H Q => (rSortedI K vs H Q ∨ ∃ d : Nat, 1 ≤ d ∧ rSortU K d bnC vs H Q) ∨ rSortD vs H Q
theorem cr_sortV {X : Cx} (hc : X.calm = true) : CallR X (.builtin "sorted") (rSortV X.K) := by
  intro pins s σ H vs us Q I r h
  rcases h with (h | ⟨d, hd, h⟩) | h
  · exact cr_sortedI pins s σ H vs us Q I r h
  · exact cr_sortT hd pins s σ H vs us Q I r h
  · exact cr_sortD hc pins s σ H vs us Q I r h
def srtD (xs : List D) : Option (List D) := match asInts xs with
  | some ns => some ((srtI ns).map .int)
  | none => srtT xs
theorem srtD_ok {xs ds : List D} {vs : List V} {a : Addr} {Q : VK} (e : srtD xs = some ds) (r : RpL G S H xs vs) (q : SqL G.K H a vs) (k : ∀ p ys, H p = none → RpL G S H ds ys → Q (.ref p) (upd H p (.lst ys))) : rSortV G.K [.ref a] H Q := by
  unfold srtD at e
  cases q1 : asInts xs with
  | some ns =>
    rw [q1] at e; cases e
    obtain ⟨f1, _⟩ := asInts_of q1 r; subst f1
    exact .inl (.inl ⟨a, ns, rfl, q, fun ms p hp hs hn => by rw [srtI_eq hp hs]; exact k p _ hn (rpl_ints _)⟩)
  | none =>
    rw [q1] at e
    obtain ⟨d, h1, h2, h3, h4⟩ := srtT_ok e r
    exact .inl (.inr ⟨d, h1, a, vs, rfl, q, h2, h3, fun ys p hp hs hn => k p ys hn (h4 ys hp hs)⟩)
theorem keys_of : ∀ {ds : List (D × D)} {kvs : List (Key × V)} {ns : List Int}, RpD G S H ds kvs → asInts (ds.map (·.1)) = some ns → kvs.map (·.1) = ns.map Sum.inl
  | _, _, ns, .nil, e => by
    have : ns = [] := by simpa [asInts] using e.symm
    subst this; rfl
  | _, _, ns, @RpD.cons _ _ _ k d ds v vs h t, e => by
    rw [List.map_cons] at e
    cases k with
    | inr z => simp [keyD, asInts] at e
    | inl i =>
      show Sum.inl i :: vs.map (·.1) = _
      have e : (asInts (.int i :: ds.map (·.1))) = some ns := e
      unfold asInts at e
      cases q : asInts (ds.map (·.1)) with
      | none => rw [q] at e; simp at e
      | some ms =>
        rw [q] at e
        have : ns = i :: ms := by simpa using e.symm
        subst this
        rw [keys_of t q]; rfl
def srtK (kvs : List (D × D)) : Option (List D) := (asInts (kvs.map (·.1))).map fun ns => (srtI ns).map .int
theorem srtK_ok {xs : List (D × D)} {ds : List D} {kvs : List (Key × V)} {a : Addr} {Q : VK} (e : srtK xs = some ds) (r : RpD G S H xs kvs) (q : H a = some (.dK kvs)) (k : ∀ p ys, H p = none → RpL G S H ds ys → Q (.ref p) (upd H p (.lst ys))) : rSortV G.K [.ref a] H Q := by
  unfold srtK at e
  obtain ⟨ns, e1, e2⟩ := Option.map_eq_some_iff.mp e
  subst e2
  exact .inr ⟨a, kvs, ns, rfl, q, keys_of r e1, fun ms p hp hs hn => by rw [srtI_eq hp hs]; exact k p _ hn (rpl_ints _)⟩
def gSorted : List D → Option D
  | [.lst xs] => (srtD xs).map .lst
  | [.rol xs] => (srtD xs).map .lst
  | [.dct xs] => (srtK xs).map .lst
  | _ => none
theorem d_sorted : CallD G gSorted (rSortV G.K) := by
  intro Z S H env σ as d xs Q o ra e k
  unfold gSorted at e
  split at e <;> try contradiction
  · obtain ⟨ds, e1, e2⟩ := Option.map_eq_some_iff.mp e
    subst e2
    cases ra with | cons r t => cases t; cases r; rename_i s q l; exact srtD_ok e1 l (SqL.of q) fun p ys hn ry => fin_L o k hn ry
  · obtain ⟨ds, e1, e2⟩ := Option.map_eq_some_iff.mp e
    subst e2
    cases ra with | cons r t => cases t; cases r; rename_i s q l; exact srtD_ok e1 l q fun p ys hn ry => fin_L o k hn ry
  · obtain ⟨ds, e1, e2⟩ := Option.map_eq_some_iff.mp e
    subst e2
    cases ra with | cons r t => cases t; cases r; rename_i s q l; exact srtK_ok e1 l q fun p ys hn ry => fin_L o k hn ry
def gTuple : List D → Option D
  | [.lst xs] => some (.tup xs)
  | [.rol xs] => some (.tup xs)
  | [.tup xs] => some (.tup xs)
  | _ => none
theorem d_tuple : CallD G gTuple (fun xs H Q => ∃ p ys, xs = [.ref p] ∧ ((SqL G.K H p ys ∧ ∀ l, H l = none → Q (.ref l) (upd H l (.tup ys))) ∨ (SqT G.K H p ys ∧ Q (.ref p) H))) := by
  intro Z S H env σ as d xs Q o ra e k
  unfold gTuple at e
  split at e <;> try contradiction
  · cases e; cases ra with | cons r t => cases t; cases r; rename_i s q l; exact ⟨_, _, rfl, .inl ⟨SqL.of q, fun p hp => fin_T o k hp l⟩⟩
  · cases e; cases ra with | cons r t => cases t; cases r; rename_i s q l; exact ⟨_, _, rfl, .inl ⟨q, fun p hp => fin_T o k hp l⟩⟩
  · cases e; cases ra with | cons r t => cases t; cases r; rename_i s q l; exact ⟨_, _, rfl, .inr ⟨q, fin_of o k (.tup s q l)⟩⟩
def gList : List D → Option D
  | [.lst xs] => some (.lst xs)
  | [.rol xs] => some (.lst xs)
  | [.tup xs] => some (.lst xs)
  | _ => none
theorem d_list : CallD G gList (fun xs H Q => ∃ p ys, xs = [.ref p] ∧ (SqL G.K H p ys ∨ SqT G.K H p ys) ∧ ∀ l, H l = none → Q (.ref l) (upd H l (.lst ys))) := by
  intro Z S H env σ as d xs Q o ra e k
  unfold gList at e
  split at e <;> try contradiction
  · cases e; cases ra with | cons r t => cases t; cases r; rename_i s q l; exact ⟨_, _, rfl, .inl (SqL.of q), fun p hp => fin_L o k hp l⟩
  · cases e; cases ra with | cons r t => cases t; cases r; rename_i s q l; exact ⟨_, _, rfl, .inl q, fun p hp => fin_L o k hp l⟩
  · cases e; cases ra with | cons r t => cases t; cases r; rename_i s q l; exact ⟨_, _, rfl, .inr q, fun p hp => fin_L o k hp l⟩
/-! kinds -/
def dTy : D → Option String
  | .non => some "NoneType"
  | .bl _ => some "bool"
  | .int _ => some "int"
  | .str _ => some "str"
  | .tup _ => some "tuple"
  | .lst _ => some "list"
  | .dct _ => some "dict"
  | _ => none
def isiB (a b : String) : Bool := a == b || (a == "bool" && b == "int")
def tyNames : List String := ["int", "bool", "str", "tuple", "list", "dict"]
theorem kitB_of {d : D} {a b : String} (h : dTy d = some a) (hb : b ∈ tyNames) : kitB a b = some (isiB a b) := by
  have ha : a ∈ ["NoneType", "bool", "int", "str", "tuple", "list", "dict"] := by
    cases d <;> simp only [dTy] at h <;> try contradiction
    all_goals (cases h; decide)
  have all : ∀ a ∈ ["NoneType", "bool", "int", "str", "tuple", "list", "dict"], ∀ b ∈ tyNames, kitB a b = some (isiB a b) := by decide +kernel
  exact all a ha b hb
theorem ty_of {v : V} {a : String} (h : Rp G S H d v) (e : dTy d = some a) : TyX G.K H v (.type a) := by
  cases h <;> simp only [dTy] at e <;> try contradiction
  all_goals cases e
  · exact .base .non
  · exact .base (.bl _)
  · exact .base (.int _)
  · exact .base (.str _)
  · rename_i s q l
    rcases q with (q | ⟨ob, q⟩) | ⟨ob, its, n, q, c, _⟩
    · exact .base (.tup q)
    · exact .fTuple q
    · exact .kTuple q c
  · rename_i s q l; exact .base (.lst q)
  · rename_i s q l; exact .base (.dK q)
def eIsi (b : String) (f : M D) : M D := bnd f fun d => lif ((dTy d).map fun a => .bl (isiB a b))
theorem se_isi {W : WX} {X : Cx} {a : Expr} {f : M D} {b : Str} {bs : String} {p p1 pos : Pos} (hK : X.K = G.K) (h : PE X a (tOf G Z W f)) (hb : bs ∈ tyNames) (g1 : Gl X "isinstance") (m1 : X.mg "isinstance" = none) (g2 : Gl X b) (m2 : X.mg b = none) (v2 : bootBuiltins b = some (.type bs)) (hn : b ≠ "__name__")
    (hd : (b == ("__debug__" : Str)) = false) (hs : starEach (a :: [.Name b p1]) X.env = (false, eval a X.env) :: starEach [.Name b p1] X.env) :
    PE X (.Call (.Name "isinstance" p) [a, .Name b p1] [] pos) (tOf G Z W (eIsi bs f)) :=
  pe_imp (pe_callB call_isi g1 m1 PyProof.Rows.boot_isinstance (pa_cons h (pa_cons (pe_bltn (v := .ty bs) g2 m2 v2 rfl hn hd) pa_nil) hs) (by decide) (by decide) hs rfl) fun σ H Q ⟨S, env, o, q⟩ => by
    refine tOf.go o (Post.bind q) fun d S1 H1 env1 v t1 rx q1 => ?_
    obtain ⟨c, e, k⟩ := lif_post q1
    cases q2 : dTy d with
    | none => rw [q2] at e; cases e
    | some ta =>
      rw [q2] at e; cases e
      refine ⟨v, .ty bs, _, _, isiB ta bs, rfl, .ty bs, by rw [hK]; exact ty_of rx q2, kit_ty (kitB_of q2 hb), fin_of t1.ok (fun S' H' t _ => k S' H' t) (.bl _)⟩
/-! texts of data -/
def gRepr : List D → Option D
  | [.int i] => if decide (i.natAbs.log2 < 1920) then some (.str (toString i)) else none
  | [.bl b] => some (.str (if b then "True" else "False"))
  | [.non] => some (.str "None")
  | [.str x] => if fits (reprText x).length then some (.str (reprText x)) else none
  | [.tup xs] => if shp 64 (.tup xs) && (toPy (.tup xs)).showable && fits ((toPy (.tup xs)).shown).length then some (.str (toPy (.tup xs)).shown) else none
  | [.lst xs] => if shp 64 (.lst xs) && (toPy (.lst xs)).showable && fits ((toPy (.lst xs)).shown).length then some (.str (toPy (.lst xs)).shown) else none
  | [.dct []] => some (.str (PyData.dict []).shown)
  | _ => none
def rRepr (K : PySem.W.Frag) : List V → Hp → VK → Prop := fun vs H Q => ∃ x, vs = [x] ∧ ((∃ i, x = .int i ∧ i.natAbs.log2 < 1920 ∧ Q (.str (toString i)) H) ∨ (∃ b, x = .bl b ∧ Q (.str (if b then "True" else "False")) H) ∨ (x = .non ∧ Q (.str "None") H) ∨
  (∃ z, x = .str z ∧ (reprText z).length ≤ sizeLine ∧ Q (.str (reprText z)) H) ∨ (∃ a p, x = .ref a ∧ Dp K H (.ref a) p ∧ SeqAt.shaped p = true ∧ p.showable = true ∧ p.shown.length ≤ sizeLine ∧ Q (.str p.shown) H) ∨ ∃ a, x = .ref a ∧ H a = some (.dK []) ∧ Q (.str (PyData.dict []).shown) H)
theorem call_reprA {X : Cx} (hg : X.A.guards = some []) (hu : X.A.units + 70 < cLine) : CallR X (.builtin "repr") (rRepr X.K) := by
  intro pins s σ H vs us Q I r ⟨x, ev, h⟩
  subst ev
  obtain ⟨u, rfl, rx⟩ := vals1 r
  rcases h with ⟨i, rfl, hz, q⟩ | ⟨b, rfl, q⟩ | ⟨rfl, q⟩ | ⟨z, rfl, hz, q⟩ | ⟨a, p, rfl, hd, hs, hw, hl, q⟩ | ⟨a, rfl, hd, q⟩
  · obtain ⟨t, rfl⟩ := rx
    exact PySem.P.repr_of_int hz ⟨.str _, H, I.tok _, ⟨_, rfl⟩, q⟩
  · cases rx
    exact PySem.P.repr_of_bool ⟨.str _, H, I.tok _, ⟨_, rfl⟩, q⟩
  · cases rx
    exact PySem.P.repr_of_none ⟨.str _, H, I.tok _, ⟨_, rfl⟩, q⟩
  · obtain ⟨t, rfl⟩ := rx
    exact PySem.P.repr_of_str ⟨.str _, H, I.tok _, ⟨_, rfl⟩, q⟩ hz
  · obtain rfl : u = Value.ref a := rx
    obtain ⟨as, rd⟩ := Dp.reads I p (.ref a) (.ref a) hd rfl
    have hnd := PyData.hasDict_of_canLay p (SeqAt.canLay_of_shaped hs)
    have hdp := SeqAt.depth_of_shaped hs
    exact repr_of_reads' rd hw (PyData.noDict_hsm hnd) hg (by omega) (fun _ _ e => e) (fun h' u tk hk => ⟨.str _, H, I.kept hk, ⟨_, rfl⟩, q⟩) hl
  · obtain rfl : u = Value.ref a := rx
    obtain ⟨_, hsys, vs, kv, o, es, ep, h1, h2, h3, _, h5, _⟩ := dk_of I.hok hd
    cases kv
    have he : es.toList = [] := by cases h5' : es.toList with
      | nil => rfl
      | cons e r => rw [h5'] at h5; cases h5
    have rd : Reads s.heap (.ref a) (.dict []) (a :: [] ++ []) := .dict h1 h2.1 h3 (by rw [he]; exact .nil) (by rw [he]; exact .nil)
    exact repr_of_reads' rd rfl (fun _ z => by
      simp only [List.cons_append, List.nil_append, List.mem_cons, List.not_mem_nil, or_false] at z
      rw [z] at hsys
      simp at hsys) hg (by show X.A.units + (_ + 1) < cLine; have : (PyData.dict []).depth ≤ 64 := by decide
                           omega) (fun _ _ e => e) (fun h' u tk hk => ⟨.str _, H, I.kept hk, ⟨_, rfl⟩, q⟩) (by decide)
theorem d_repr : CallD G gRepr (rRepr G.K) := by
  intro Z S H env σ as d xs Q o ra e k
  unfold gRepr at e
  split at e <;> try contradiction
  · split at e <;> cases e
    rename_i hz
    cases ra with | cons r t => cases t; cases r; exact ⟨_, rfl, .inl ⟨_, rfl, of_decide_eq_true hz, fin_of o k (.str _)⟩⟩
  · cases e; cases ra with | cons r t => cases t; cases r; exact ⟨_, rfl, .inr (.inl ⟨_, rfl, fin_of o k (.str _)⟩)⟩
  · cases e; cases ra with | cons r t => cases t; cases r; exact ⟨_, rfl, .inr (.inr (.inl ⟨rfl, fin_of o k (.str _)⟩))⟩
  · split at e <;> cases e
    rename_i hz
    cases ra with | cons r t => cases t; cases r; exact ⟨_, rfl, .inr (.inr (.inr (.inl ⟨_, rfl, fits_line hz, fin_of o k (.str _)⟩)))⟩
  · split at e <;> cases e
    rename_i hz
    simp only [Bool.and_eq_true] at hz
    cases ra with | cons r t => cases t; cases r with | tup s q l => exact ⟨_, rfl, .inr (.inr (.inr (.inr (.inl ⟨_, _, rfl, (Rp.tup s q l).dp hz.1.1, shaped_of hz.1.1, hz.1.2, fits_line hz.2, fin_of o k (.str _)⟩))))⟩
  · split at e <;> cases e
    rename_i hz
    simp only [Bool.and_eq_true] at hz
    cases ra with | cons r t => cases t; cases r with | lst s q l => exact ⟨_, rfl, .inr (.inr (.inr (.inr (.inl ⟨_, _, rfl, (Rp.lst s q l).dp hz.1.1, shaped_of hz.1.1, hz.1.2, fits_line hz.2, fin_of o k (.str _)⟩))))⟩
  · cases e; cases ra with | cons r t => cases t; cases r with | dct s q l => cases l; exact ⟨_, rfl, .inr (.inr (.inr (.inr (.inr ⟨_, rfl, q, fin_of o k (.str _)⟩))))⟩
/-! slices -/
def cutD (xs : List D) (lo hi : Option Int) : List D := (xs.drop (HT.sIx xs.length 0 lo)).take (HT.sIx xs.length xs.length hi - HT.sIx xs.length 0 lo)
theorem RpL.cut {ds : List D} {vs : List V} (h : RpL G S H ds vs) (lo hi : Option Int) : RpL G S H (cutD ds lo hi) (cutV vs lo hi) := by
  unfold cutD cutV
  rw [h.length]
  exact (h.drop _).take _
theorem cut_whole {ds : List D} {n : Nat} {lo hi : Option Int} (hn : n = ds.length) (h1 : HT.sIx n 0 lo = 0) (h2 : HT.sIx n n hi = n) : cutD ds lo hi = ds := by
  subst hn
  unfold cutD
  rw [h1, h2, Nat.sub_zero, List.drop_zero, List.take_length]
def gSl : D → Option Int → Option Int → Option D
  | .lst xs, lo, hi => some (.lst (cutD xs lo hi))
  | .rol xs, lo, hi => some (.lst (cutD xs lo hi))
  | .tup xs, lo, hi => some (.tup (cutD xs lo hi))
  | _, _, _ => none
def asPart : D → Option Int
  | .int i => some i
  | _ => none
def oPart : Option (M D) → M (Option Int)
  | none => ret none
  | some f => bnd f fun d => lif ((asPart d).map some)
def eSl (f : M D) (lo hi : Option (M D)) : M D := bnd f fun d => bnd (oPart lo) fun l => bnd (oPart hi) fun u => lif (gSl d l u)
def tOfO (G : Gx) (Z : Zx) (W : WX) (f : M (Option Int)) : TO := fun σ H Q => ∃ S env, Ok G Z S H env σ ∧ Post G Z W (f env) S H env σ (fun b _ H' _ => Q b H')
theorem po_imp {X : Cx} {e : Option Expr} {t t' : TO} (h : PO X e t) (k : ∀ σ H Q, t' σ H Q → t σ H Q) : PO X e t' := ⟨fun pins s σ H Q I h' => h.run pins s σ H Q I (k _ _ _ h')⟩
theorem so_none {W : WX} {X : Cx} : PO X none (tOfO G Z W (oPart none)) := po_imp po_none fun σ H Q ⟨S, env, o, q⟩ => q S H (Tr.refl o)
theorem so_some {W : WX} {X : Cx} {e : Expr} {f : M D} (h : PE X e (tOf G Z W f)) : PO X (some e) (tOfO G Z W (oPart (some f))) := po_imp (po_some h) fun σ H Q ⟨S, env, o, q⟩ => by
  refine tOf.go o (Post.bind q) fun d S1 H1 env1 v t1 rx q1 => ?_
  obtain ⟨c, e, k⟩ := lif_post q1
  cases rx <;> simp only [asPart, Option.map] at e <;> try contradiction
  cases e
  exact ⟨_, rfl, k S1 H1 (Tr.refl t1.ok)⟩
theorem sl_or {X : Cx} {r r' : V → Option Int → Option Int → Hp → VK → Prop} (h : SlR X r) (h' : SlR X r') : SlR X (fun x lo hi H Q => r x lo hi H Q ∨ r' x lo hi H Q) := by
  intro pins s σ H x v vl vu lo hi sl Q I rx hs pl pu q
  rcases q with q | q
  · exact h pins s σ H x v vl vu lo hi sl Q I rx hs pl pu q
  · exact h' pins s σ H x v vl vu lo hi sl Q I rx hs pl pu q
theorem tOfO.go {W : WX} {f : M (Option Int)} {K : Option Int → Pr → Hp → Env → Prop} {Q : Option Int → Hp → Prop} (o : Ok G Z S H env σ) (h : Post G Z W (f env) S H env σ K)
    (k : ∀ d S' H' env', Tr G Z S H env σ S' H' env' σ → K d S' H' env' → Q d H') : tOfO G Z W f σ H Q :=
  ⟨S, env, o, h.mono fun d S' H' env' t q => k d S' H' env' t q⟩
theorem se_slice {W : WX} {X : Cx} {a : Expr} {f : M D} {lo hi : Option Expr} {fl fh : Option (M D)} {p2 pos : Pos} (hK : X.K = G.K) (h : PE X a (tOf G Z W f)) (hl : PO X lo (tOfO G Z W (oPart fl))) (hh : PO X hi (tOfO G Z W (oPart fh))) :
    PE X (.Subscript a (.Slice lo hi none p2) pos) (tOf G Z W (eSl f fl fh)) :=
  pe_imp (pe_slice (sl_or sl_list sl_tupA) h hl hh) fun σ H Q ⟨S, env, o, q⟩ => by
    refine tOf.go o (Post.bind q) fun d S1 H1 env1 v t1 rx q1 => ?_
    refine tOfO.go t1.ok (Post.bind q1) fun l S2 H2 env2 t2 q2 => ?_
    refine tOfO.go t2.ok (Post.bind q2) fun u S3 H3 env3 t3 q3 => ?_
    obtain ⟨c, e, k⟩ := lif_post q3
    have r3 := t3.rp t2.ok (t2.rp t1.ok rx)
    rw [hK]
    cases r3 <;> simp only [gSl] at e <;> try contradiction
    · rename_i s q l
      cases e
      refine .inr ⟨_, _, rfl, q, fun hw => ?_, fun hw p hp => fin_T t3.ok (fun S' H' t _ => k S' H' t) hp (l.cut _ _)⟩
      refine fin_of t3.ok (fun S' H' t _ => k S' H' t) ?_
      rw [cut_whole l.length hw.1 hw.2]
      exact .tup s q l
    · rename_i s q l
      cases e
      exact .inl ⟨_, _, rfl, SqL.of q, fun p hp => fin_L t3.ok (fun S' H' t _ => k S' H' t) hp (l.cut _ _)⟩
    · rename_i s q l
      cases e
      exact .inl ⟨_, _, rfl, q, fun p hp => fin_L t3.ok (fun S' H' t _ => k S' H' t) hp (l.cut _ _)⟩
end
end PL

namespace PL
open PySem PySem.Spec PyProof.Rows L2

/-! ### functions -/
inductive FR where
  | ok (r : SV) (outs : List SV)
  | exc (x : Ex) (outs : List SV)
  | stuck
abbrev Fn := List SV → FR

def RetRp (G : Gx) (H0 : Hp) (S' : Pr) (H' : Hp) : SV → V → Prop
  | .none, _ => False
  | .val d, v => Rp G S' H' d v
  | .own _ xs, v => ∃ (p : Addr) (ws : List V), v = .ref p ∧ H0 p = none ∧ H' p = some (.lst ws) ∧ ¬ S' p ∧ RpL G S' H' xs ws
structure FTr (G : Gx) (S : Pr) (H : Hp) (svs : List SV) (vs : List V) (S' : Pr) (H' : Hp) (outs : List SV) : Prop where
  tb : LamX.Tabs G.T H'
  nt : ∀ a, S' a → ∀ ps, H' a ≠ some (.tbl ps)
  ext : Ext (Own svs (vs.map some)) S H S' H'
  new : ∀ a, S' a → S a ∨ H a = none
  tr : ∀ a, S' a → H' a ≠ none
  outs : ∀ (i : Nat) (io : Bool) (xs : List D), svs[i]? = some (.own io xs) → ∃ (ys : List D) (a : Addr) (ws : List V), outs[i]? = some (.own true ys) ∧ vs[i]? = some (.ref a) ∧ H' a = some (.lst ws) ∧ ¬ S' a ∧ RpL G S' H' ys ws
def zOf (svs : List SV) (vs : List V) (H : Hp) : Zx := ⟨fun i => match svs[i]?, vs[i]? with
  | some (.own _ _), some (.ref a) => some a
  | _, _ => none, H⟩
def PostF (G : Gx) (r : FR) (S : Pr) (H : Hp) (svs : List SV) (vs : List V) (Q : VK) (E : XK) : Prop := match r with
  | .ok r outs => ∀ S' H' v, FTr G S H svs vs S' H' outs → RetRp G H S' H' r v → Q v H'
  | .exc x outs => ∀ S' H' cls dd, FTr G S H svs vs S' H' outs → ExRp G S' H' x cls dd → E cls dd H'
  | .stuck => False
def spOf (G : Gx) (np : Nat) (F : Fn) : Sp := fun vs H Q E => ∃ S svs, vs.length = np ∧ Ok G (zOf svs vs H) S H svs (vs.map some) ∧ (∀ (i : Nat) (io : Bool) (xs : List D), svs[i]? = some (.own io xs) → io = true) ∧ PostF G (F svs) S H svs vs Q E

/-- a def's promise where nothing is being shown -/
structure FnG (P : Program) (w : World) (K : PySem.W.Frag) (mg : Str → Option Value) (base : Heap) (k : Nat) (f : Addr) (fd : FuncData) (ps : List Str) (sp : Sp) : Prop where
  len : ∀ vs H Q E, sp vs H Q E → vs.length = ps.length
  run : ∀ (A : Around) (outer : List PySem.Env) (s : Shared) (H : Hp) (args : Args) (us : List Value) (vs : List V) (Q : VK) (E : XK), Room k A → A.guards = some [] → Env0 P w K mg base A outer s H → BindsTo s fd args (ps.zip us) → Vals vs us → sp vs H Q E →
    codeAny (model P w) A (.call (.ref f) args) (CR (L2.CX P w) outer P w H s Q E) s
theorem FnG.mono {P : Program} {w : World} {K : PySem.W.Frag} {mg : Str → Option Value} {base : Heap} {j k : Nat} {f : Addr} {fd : FuncData} {ps : List Str} {sp : Sp} (F : FnG P w K mg base j f fd ps sp) (h : j ≤ k) :
    FnG P w K mg base k f fd ps sp := ⟨F.len, fun A outer s H args us vs Q E hr => F.run A outer s H args us vs Q E (hr.mono h)⟩
/-- what the walk of a body knows of the defs that it calls -/
structure FnAt (P : Program) (w : World) (G : Gx) (base : Heap) (k : Nat) (x : Str) (np : Nat) (F : Fn) : Prop where
  ex : ∃ (f : Addr) (fd : FuncData) (ps : List Str), G.mg x = some (.ref f) ∧ PySem.W.keepIn G.K (.ref f) = true ∧ Binds G.K fd ps [] ∧ FnG P w G.K G.mg base k f fd ps (spOf G np F)

section
variable {X : Cx} {k : Nat} {f : Addr} {fd : FuncData} {ps : List Str} {sp : Sp} {W : WX} {x : Str} {p pos : Pos} {e : Expr} {es : List Expr} {t : TA}
def tCallW (sp : Sp) (W : WX) (t : TA) : TE := fun σ H Q => t σ H fun vs H1 => sp vs H1 Q (WE W σ)
theorem run_fnW {pins : List (Addr × Obj)} {σ : L2.St} {H : Hp} {s : Shared} {Q : VK} {us : List Value} {vs : List V} (F : FnG X.prog X.w X.K X.mg X.base k f fd ps sp) (hr : Room k X.A) (hg : X.A.guards = some []) (hb : Binds X.K fd ps []) (tk : Takes X W)
    (I : L2.Inv X pins σ H s) (r : Vals vs us) (h : sp vs H Q (WE W σ)) : wpAny (model X.prog X.w) X.A (call (.ref f) us) (EP X pins σ Q) X.xe s := by
  have hl : us.length = ps.length := by rw [← r.length]; exact F.len _ _ _ _ h
  have hb' := hb s us I.kIn (by rw [List.append_nil]; exact hl)
  rw [List.append_nil] at hb'
  refine wpAny_call (codeAny_mono (F.run X.A X.stack s H ⟨us, []⟩ us vs Q (WE W σ) hr hg I.env0 hb' r h) fun r s' hq => ?_)
  cases r with
  | error e => exact (passAt tk σ) pins H s e s' I hq
  | ok fl =>
    cases fl with
    | ret u => exact I.after hq
    | next => exact False.elim hq
    | brk => exact False.elim hq
    | cont => exact False.elim hq
theorem pe_callW (F : FnG X.prog X.w X.K X.mg X.base k f fd ps sp) (hr : Room k X.A) (hG : X.A.guards = some []) (hg : Gl X x) (hm : X.mg x = some (.ref f)) (hk : PySem.W.keepIn X.K (.ref f) = true) (hb : Binds X.K fd ps []) (tk : Takes X W)
    (ha : PA X (e :: es) t) (hdb : (x == ("__debug__" : Str)) = false) (he : starEach (e :: es) X.env = (false, eval e X.env) :: starEach es X.env) (hpl : (backTo pos (starEach es X.env)).any (·.1) = false) :
    PE X (.Call (.Name x p) (e :: es) [] pos) (tCallW sp W t) := by
  refine ⟨fun pins s σ H Q I h => ?_⟩
  refine wpAny_Call_Name_kw (ld_glob I hg hm ?_ hdb)
  refine PySem.W.callWith_K (h₀ := X.base) I.ok.mod.kin hk (thn (ha.run pos pins s σ H _ I h) fun us s1 ⟨vs, H1, I1, r, q⟩ => ⟨I1.kIn, ?_⟩) he hpl
  exact run_fnW F hr hG hb tk I1 r q
end

/-! ### arguments, some handed on as they are -/
inductive AV where
  | val (d : D)
  | ref (i : Nat)
inductive AvRp (G : Gx) (S : Pr) (H : Hp) (σ : L2.St) : List AV → List V → Prop
  | nil : AvRp G S H σ [] []
  | val {d : D} {v : V} {as : List AV} {vs : List V} : Rp G S H d v → AvRp G S H σ as vs → AvRp G S H σ (.val d :: as) (v :: vs)
  | ref {i : Nat} {v : V} {as : List AV} {vs : List V} : σ[i]? = some (some v) → AvRp G S H σ as vs → AvRp G S H σ (.ref i :: as) (v :: vs)
def tOfB (G : Gx) (Z : Zx) (W : WX) (f : M (List AV)) : TA := fun σ H Q => ∃ S env, Ok G Z S H env σ ∧ Post G Z W (f env) S H env σ (fun ds S' H' _ => ∀ vs, AvRp G S' H' σ ds vs → Q vs H')
def isOwn : Option SV → Bool
  | some (.own _ _) => true
  | _ => false
def aVal (f : M D) : M AV := bnd f fun d => ret (.val d)
def aRef (i : Nat) : M AV := fun env => if isOwn env[i]? then .ok (.ref i) env else .stuck
def aNil : M (List AV) := ret []
def aCons (f : M AV) (g : M (List AV)) : M (List AV) := bnd f fun a => bnd g fun as => ret (a :: as)
section
variable {G : Gx} {Z : Zx} {W : WX} {S S1 : Pr} {H H1 : Hp} {env env1 : Env} {σ : L2.St} {X : Cx}
theorem AvRp.keep (k : ∀ a, S a → S1 a ∧ ∀ o, H a = some o → H1 a = some o) : ∀ {as : List AV} {vs : List V}, AvRp G S H σ as vs → AvRp G S1 H1 σ as vs
  | _, _, .nil => .nil
  | _, _, .val h t => .val (h.keep k) (AvRp.keep k t)
  | _, _, .ref h t => .ref h (AvRp.keep k t)
theorem sb_nil : PA X [] (tOfB G Z W aNil) := pa_imp pa_nil fun σ H Q ⟨S, env, o, q⟩ => q S H (Tr.refl o) [] .nil
theorem tOfB.go {f : M (List AV)} {K : List AV → Pr → Hp → Env → Prop} {Q : List V → Hp → Prop} (o : Ok G Z S H env σ) (h : Post G Z W (f env) S H env σ K)
    (k : ∀ d S' H' env' v, Tr G Z S H env σ S' H' env' σ → AvRp G S' H' σ d v → K d S' H' env' → Q v H') : tOfB G Z W f σ H Q :=
  ⟨S, env, o, h.mono fun d S' H' env' t q v r => k d S' H' env' v t r q⟩
theorem Post.assoc {α β γ : Type} {f : M α} {g : α → M β} {h : β → M γ} {K : γ → Pr → Hp → Env → Prop} (q : Post G Z W (bnd (bnd f g) h env) S H env σ K) : Post G Z W (bnd f (fun a => bnd (g a) h) env) S H env σ K := by
  unfold bnd at q ⊢
  cases e : f env with
  | ok a e1 => rw [e] at q; exact q
  | exc x e1 => rw [e] at q; exact q
  | stuck => rw [e] at q; exact q
theorem sb_val {e : Expr} {es : List Expr} {f : M D} {g : M (List AV)} (h : PE X e (tOf G Z W f)) (t : PA X es (tOfB G Z W g)) (hs : starEach (e :: es) X.env = (false, eval e X.env) :: starEach es X.env) : PA X (e :: es) (tOfB G Z W (aCons (aVal f) g)) :=
  pa_imp (pa_cons h t hs) fun σ H Q ⟨S, env, o, q⟩ => by
    refine tOf.go o (Post.bind (Post.assoc q)) fun da S1 H1 env1 x t1 rx q1 => ?_
    refine tOfB.go t1.ok (Post.bind q1) fun db S2 H2 env2 y t2 ry q2 => ?_
    exact q2 S2 H2 (Tr.refl t2.ok) _ (.val (t2.rp t1.ok rx) ry)
theorem sb_ref {e : Expr} {es : List Expr} {i : Nat} {g : M (List AV)} (h : PE X e (tVar i)) (t : PA X es (tOfB G Z W g)) (hs : starEach (e :: es) X.env = (false, eval e X.env) :: starEach es X.env) : PA X (e :: es) (tOfB G Z W (aCons (aRef i) g)) :=
  pa_imp (pa_cons h t hs) fun σ H Q ⟨S, env, o, q⟩ => by
    have q' : Post G Z W ((aRef i env).bind fun a => bnd g fun as => ret (a :: as)) S H env σ fun ds S' H' _ => ∀ vs, AvRp G S' H' σ ds vs → Q vs H' := q
    unfold aRef at q'
    split at q'
    · rename_i hi
      unfold isOwn at hi
      split at hi
      · rename_i io xs e
        obtain ⟨a, vs, e1, e2, e3, e4⟩ := o.own i io xs e
        refine ⟨_, e1, ?_⟩
        refine tOfB.go o (Post.bind q') fun db S2 H2 env2 y t2 ry q2 => ?_
        exact q2 S2 H2 (Tr.refl t2.ok) _ (.ref e1 ry)
      · cases hi
    · exact q'.elim

/-! ### a call -/
def avSV (env : Env) : AV → Option SV
  | .val d => some (.val d)
  | .ref i => match env[i]? with
    | some (.own _ xs) => some (.own true xs)
    | _ => none
def svsOf (env : Env) : List AV → Option (List SV)
  | [] => some []
  | a :: r => match avSV env a, svsOf env r with
    | some s, some t => some (s :: t)
    | _, _ => none
def isRef : AV → Bool
  | .ref _ => true
  | _ => false
def oneRef : List AV → Bool
  | [] => true
  | .val _ :: r => oneRef r
  | .ref _ :: r => r.all fun a => !isRef a
def bring (env : Env) : List AV → List SV → Env
  | .ref i :: r, .own _ xs :: s => match env[i]? with
    | some (.own io _) => env.set i (.own io xs)
    | _ => env
  | .val _ :: r, _ :: s => bring env r s
  | _, _ => env
/-- the def's outcome at the caller -/
def callF (np : Nat) (F : Fn) (avs : List AV) : M SV := fun env => if oneRef avs && decide (avs.length = np) then match svsOf env avs with
    | some svs => match F svs with
      | .ok r outs => .ok r (bring env avs outs)
      | .exc x outs => .exc x (bring env avs outs)
      | .stuck => .stuck
    | none => .stuck else .stuck
def asVal : SV → Option D
  | .val d => some d
  | .own _ xs => some (.lst xs)
  | .none => none
def asOwn : SV → Option (List D)
  | .own _ xs => some xs
  | _ => none
def eCall (np : Nat) (F : Fn) (fa : M (List AV)) : M D := bnd fa fun avs => bnd (callF np F avs) fun r => lif (asVal r)
def eCallO (np : Nat) (F : Fn) (fa : M (List AV)) : M (List D) := bnd fa fun avs => bnd (callF np F avs) fun r => lif (asOwn r)

theorem svs_len : ∀ {avs : List AV} {svs : List SV}, svsOf env avs = some svs → svs.length = avs.length
  | [], _, e => by cases e; rfl
  | a :: r, svs, e => by
    unfold svsOf at e
    split at e
    · cases e
      rename_i s t _ e2
      simp [svs_len e2]
    · cases e
theorem AvRp.len : ∀ {as : List AV} {vs : List V}, AvRp G S H σ as vs → vs.length = as.length
  | _, _, .nil => rfl
  | _, _, .val _ t => congrArg Nat.succ t.len
  | _, _, .ref _ t => congrArg Nat.succ t.len
theorem avSV_ref {i : Nat} {s : SV} (e : avSV env (.ref i) = some s) : ∃ io xs, env[i]? = some (.own io xs) ∧ s = .own true xs := by
  cases he : env[i]? with
  | none => simp [avSV, he] at e
  | some sv =>
    cases sv with
    | own io xs => simp [avSV, he] at e; exact ⟨io, xs, rfl, e.symm⟩
    | none => simp [avSV, he] at e
    | val d => simp [avSV, he] at e
/-- what stands at the j-th argument -/
theorem svs_at : ∀ {avs : List AV} {svs : List SV} {vs : List V} {j : Nat} {s : SV}, svsOf env avs = some svs → AvRp G S H σ avs vs → svs[j]? = some s →
    ∃ v, vs[j]? = some v ∧ ((∃ d, avs[j]? = some (.val d) ∧ s = .val d ∧ Rp G S H d v) ∨ ∃ i io xs, avs[j]? = some (.ref i) ∧ env[i]? = some (.own io xs) ∧ s = .own true xs ∧ σ[i]? = some (some v))
  | [], _, _, _, _, e, _, h => by cases e; simp at h
  | a :: r, svs, vs, j, s, e, ra, h => by
    unfold svsOf at e
    split at e
    · rename_i s0 t e1 e2
      cases e
      cases j with
      | zero =>
        have hs : s0 = s := by simpa using h
        subst hs
        cases ra with
        | val hr ht => exact ⟨_, rfl, .inl ⟨_, rfl, by unfold avSV at e1; exact (Option.some.inj e1).symm, hr⟩⟩
        | ref hr ht =>
          obtain ⟨io, xs, he, es⟩ := avSV_ref e1
          exact ⟨_, rfl, .inr ⟨_, io, xs, rfl, he, es, hr⟩⟩
      | succ j =>
        have h' : t[j]? = some s := by simpa using h
        cases ra with
        | val hr ht => obtain ⟨v, h1, h2⟩ := svs_at e2 ht h'; exact ⟨v, by simpa using h1, by simpa using h2⟩
        | ref hr ht => obtain ⟨v, h1, h2⟩ := svs_at e2 ht h'; exact ⟨v, by simpa using h1, by simpa using h2⟩
    · cases e
theorem one_ref : ∀ {avs : List AV} {i j a b : Nat}, oneRef avs = true → avs[i]? = some (.ref a) → avs[j]? = some (.ref b) → i = j
  | [], _, _, _, _, _, h, _ => by simp at h
  | .val d :: r, 0, _, _, _, _, h, _ => by simp at h
  | .val d :: r, _ + 1, 0, _, _, _, _, h => by simp at h
  | .val d :: r, i + 1, j + 1, a, b, o, h1, h2 => congrArg Nat.succ (one_ref (avs := r) (i := i) (j := j) o (by simpa using h1) (by simpa using h2))
  | .ref c :: r, 0, 0, _, _, _, _, _ => rfl
  | .ref c :: r, 0, j + 1, a, b, o, _, h2 => by
    have := List.all_eq_true.mp (show r.all (fun a => !isRef a) = true from o) (.ref b) (List.mem_of_getElem? (i := j) (by simpa using h2))
    simp [isRef] at this
  | .ref c :: r, i + 1, _, a, b, o, h1, _ => by
    have := List.all_eq_true.mp (show r.all (fun a => !isRef a) = true from o) (.ref a) (List.mem_of_getElem? (i := i) (by simpa using h1))
    simp [isRef] at this
theorem no_ref : ∀ {avs : List AV} {outs : List SV}, (∀ (j a : Nat), avs[j]? ≠ some (.ref a)) → bring env avs outs = env
  | [], _, _ => by unfold bring; rfl
  | .val d :: r, [], _ => by unfold bring; rfl
  | .val d :: r, s :: t, h => by unfold bring; exact no_ref (avs := r) (outs := t) fun j a e => h (j + 1) a (by simpa using e)
  | .ref c :: r, _, h => absurd rfl (h 0 c)
theorem bring_at : ∀ {avs : List AV} {outs : List SV} {j i : Nat} {io io' : Bool} {xs ys : List D}, avs[j]? = some (.ref i) → oneRef avs = true → outs[j]? = some (.own io' ys) → env[i]? = some (.own io xs) → bring env avs outs = env.set i (.own io ys)
  | [], _, _, _, _, _, _, _, h, _, _, _ => by simp at h
  | .val d :: r, [], j, i, _, _, _, _, _, _, h, _ => by simp at h
  | .val d :: r, s :: t, 0, i, _, _, _, _, h, _, _, _ => by simp at h
  | .val d :: r, s :: t, j + 1, i, _, _, _, _, h1, o, h2, h3 => by
    unfold bring
    exact bring_at (avs := r) (outs := t) (j := j) (by simpa using h1) o (by simpa using h2) h3
  | .ref c :: r, [], j, i, _, _, _, _, _, _, h, _ => by simp at h
  | .ref c :: r, s :: t, 0, i, _, _, _, _, h1, o, h2, h3 => by
    have e1 : c = i := by simpa using h1
    simp only [List.getElem?_cons_zero, Option.some.injEq] at h2
    subst e1; subst h2
    unfold bring
    rw [h3]
  | .ref c :: r, s :: t, j + 1, i, _, _, _, _, h1, o, h2, h3 => by
    have := one_ref (i := 0) (j := j + 1) o (a := c) (b := i) rfl h1
    cases this

/-- the callee's own view of its arguments -/
theorem call_in {avs : List AV} {svs : List SV} {vs : List V} (o : Ok G Z S H env σ) (e : svsOf env avs = some svs) (h1 : oneRef avs = true) (r : AvRp G S H σ avs vs) :
    Ok G (zOf svs vs H) S H svs (vs.map some) ∧ (∀ (i : Nat) (io : Bool) (xs : List D), svs[i]? = some (.own io xs) → io = true) ∧ ∀ a, Own svs (vs.map some) a → Own env σ a := by
  have mp : ∀ {j : Nat} {v : V}, vs[j]? = some v → (vs.map some)[j]? = some (some v) := fun {j v} h => by rw [List.getElem?_map, h]; rfl
  have pm : ∀ {j : Nat} {v : V}, (vs.map some)[j]? = some (some v) → vs[j]? = some v := fun {j v} h => by
    rw [List.getElem?_map] at h
    cases q : vs[j]? with
    | none => rw [q] at h; cases h
    | some u => rw [q] at h; cases h; rfl
  have own : ∀ (j : Nat) (io : Bool) (xs : List D), svs[j]? = some (.own io xs) → io = true ∧ ∃ i io' v, avs[j]? = some (.ref i) ∧ env[i]? = some (.own io' xs) ∧ σ[i]? = some (some v) ∧ vs[j]? = some v := fun j io xs h => by
    obtain ⟨v, hv, h2⟩ := svs_at e r h
    rcases h2 with ⟨d, _, q, _⟩ | ⟨i, io', ys, q1, q2, q3, q4⟩
    · cases q
    · cases q3; exact ⟨rfl, i, io', v, q1, q2, q4, hv⟩
  refine ⟨⟨o.tb, o.nt, o.tr, fun _ q => q, by rw [List.length_map, r.len, svs_len e], fun j d h => ?_, fun j io xs h => ?_, fun j l io xs io' ys a h1' h2' h3 h4 => ?_, fun j xs a h h2 => ?_, fun j xs a h h2 => ?_⟩, fun j io xs h => (own j io xs h).1, fun a ⟨j, io, xs, h, h2⟩ => ?_⟩
  · obtain ⟨v, hv, h2⟩ := svs_at e r h
    rcases h2 with ⟨d', _, q, q2⟩ | ⟨i, io', ys, q1, q2, q3, q4⟩
    · cases q; exact ⟨v, mp hv, q2⟩
    · cases q3
  · obtain ⟨_, i, io', v, q1, q2, q3, q4⟩ := own j io xs h
    obtain ⟨a, ws, f1, f2, f3, f4⟩ := o.own i io' xs q2
    rw [q3] at f1; cases f1
    exact ⟨a, ws, mp q4, f2, f3, f4⟩
  · obtain ⟨_, i, io', v, q1, _⟩ := own j io xs h1'
    obtain ⟨_, i2, io2, v2, q1', _⟩ := own l _ ys h2'
    exact one_ref h1 q1 q1'
  · show (match svs[j]?, vs[j]? with | some (.own _ _), some (.ref a) => some a | _, _ => none) = some a
    rw [h, pm h2]
  · have := (own j false xs h).1
    cases this
  · obtain ⟨_, i, io', v, q1, q2, q3, q4⟩ := own j io xs h
    have e1 := pm h2
    rw [q4] at e1; cases e1
    exact ⟨i, io', xs, q2, q3⟩
/-- the caller's state behind the call -/
theorem call_out {avs : List AV} {svs outs : List SV} {vs : List V} {S' : Pr} {H' : Hp} (o : Ok G Z S H env σ) (e : svsOf env avs = some svs) (h1 : oneRef avs = true) (r : AvRp G S H σ avs vs) (t : FTr G S H svs vs S' H' outs) :
    Tr G Z S H env σ S' H' (bring env avs outs) σ ∧ ∀ a, Own (bring env avs outs) σ a → Own env σ a := by
  obtain ⟨oc, _, sub⟩ := call_in o e h1 r
  have kS : ∀ a, S a → S' a ∧ ∀ ob, H a = some ob → H' a = some ob := fun a s => ⟨t.ext.sub a s, fun ob q => t.ext.keep a ob q (fun z => (o.notS (sub a z)).1 s) fun ps z => o.nt a s ps (by rw [q, z])⟩
  have ext : Ext (Own env σ) S H S' H' := ⟨fun a ob q n => t.ext.keep a ob q (fun z => n (sub a z)), t.ext.there, t.ext.sub, fun a q => (t.new a q).elim .inl fun z => .inr (.inl z)⟩
  -- the own lists that were not handed on
  have stay : ∀ (i : Nat) (io : Bool) (xs : List D) (a : Addr) (ws : List V), env[i]? = some (.own io xs) → σ[i]? = some (some (.ref a)) → H a = some (.lst ws) → ¬ S a → RpL G S H xs ws → (∀ j : Nat, avs[j]? ≠ some (AV.ref i)) → H' a = some (.lst ws) ∧ ¬ S' a ∧ RpL G S' H' xs ws := fun i io xs a ws q1 q2 q3 q4 q5 q6 => by
    refine ⟨t.ext.keep a _ q3 (fun ⟨j, io2, ys, z1, z2⟩ => ?_) (fun _ z => by cases z), fun z => ?_, q5.keep kS⟩
    · obtain ⟨v, hv, h2⟩ := svs_at e r z1
      rcases h2 with ⟨d, _, q, _⟩ | ⟨i2, io', zs, p1, p2, p3, p4⟩
      · cases q
      · rw [List.getElem?_map, hv] at z2
        cases z2
        exact q6 j (by rw [p1, o.inj i2 i io' zs io xs a p2 q1 p4 q2])
    · rcases t.new a z with z | z
      · exact q4 z
      · rw [q3] at z; cases z
  by_cases hr : ∃ (j i : Nat), avs[j]? = some (AV.ref i)
  · obtain ⟨j, i, hj⟩ := hr
    -- the one that was
    have hjl : j < svs.length := by rw [svs_len e]; exact (List.getElem?_eq_some_iff.mp hj).1
    have hs : svs[j]? = some svs[j] := by simp [hjl]
    obtain ⟨v, hv, h2⟩ := svs_at e r hs
    rcases h2 with ⟨d, q, _, _⟩ | ⟨i2, io, xs, p1, p2, p3, p4⟩
    · rw [hj] at q; cases q
    · rw [hj] at p1; cases p1
      rw [p3] at hs
      obtain ⟨ys, a, ws, f1, f2, f3, f4, f5⟩ := t.outs j true xs hs
      rw [hv] at f2; cases f2
      rw [bring_at hj h1 f1 p2]
      have hi : i < env.length := (List.getElem?_eq_some_iff.mp p2).1
      have cases' : ∀ (l : Nat) (s : SV), (env.set i (.own io ys))[l]? = some s → (l = i ∧ s = .own io ys) ∨ (l ≠ i ∧ env[l]? = some s) := fun l s q => by
        by_cases hl : l = i
        · subst hl; rw [List.getElem?_set_self hi] at q; exact .inl ⟨rfl, (Option.some.inj q).symm⟩
        · rw [List.getElem?_set_ne (Ne.symm hl)] at q; exact .inr ⟨hl, q⟩
      have notj : ∀ l : Nat, l ≠ i → ∀ m : Nat, avs[m]? ≠ some (AV.ref l) := fun l hl m q => by
        have := one_ref h1 hj q
        subst this
        rw [hj] at q; cases q; exact hl rfl
      have back : ∀ (l : Nat) (io2 : Bool) (zs : List D), (env.set i (.own io ys))[l]? = some (.own io2 zs) → ∃ zs', env[l]? = some (.own io2 zs') := fun l io2 zs q => by
        rcases cases' l _ q with ⟨h1, h2⟩ | ⟨_, h2⟩
        · cases h2; subst h1; exact ⟨_, p2⟩
        · exact ⟨_, h2⟩
      have osub : ∀ b, Own (env.set i (.own io ys)) σ b → Own env σ b := fun b ⟨l, io2, zs, q1, q2⟩ => by
        obtain ⟨_, b1⟩ := back l _ _ q1
        exact ⟨l, io2, _, b1, q2⟩
      refine ⟨⟨ext, ⟨t.tb, t.nt, t.tr, fun b q => t.ext.there b (o.old b q), by simpa using o.len, fun l d q => ?_, fun l io2 zs q => ?_, fun l m io2 zs io3 zs3 b q1 q2 q3 q4 => ?_, fun l zs b q1 q2 => ?_, fun l zs b q1 q2 => ?_⟩, fun b q => .inl (osub b q)⟩, osub⟩
      · rcases cases' l _ q with ⟨_, h2⟩ | ⟨_, h2⟩
        · cases h2
        · obtain ⟨w, g1, g2⟩ := o.val l d h2
          exact ⟨w, g1, g2.keep kS⟩
      · rcases cases' l _ q with ⟨h1, h2⟩ | ⟨hl, h2⟩
        · cases h2; subst h1
          exact ⟨a, ws, p4, f3, f4, f5⟩
        · obtain ⟨b, us, g1, g2, g3, g4⟩ := o.own l io2 zs h2
          obtain ⟨s1, s2, s3⟩ := stay l io2 zs b us h2 g1 g2 g3 g4 (notj l hl)
          exact ⟨b, us, g1, s1, s2, s3⟩
      · obtain ⟨_, b1⟩ := back l _ _ q1
        obtain ⟨_, b2⟩ := back m _ _ q2
        exact o.inj l m _ _ _ _ b b1 b2 q3 q4
      · obtain ⟨_, b1⟩ := back l _ _ q1
        exact o.io l _ b b1 q2
      · obtain ⟨_, b1⟩ := back l _ _ q1
        exact o.fr l _ b b1 q2
  · have hn : ∀ (j a : Nat), avs[j]? ≠ some (AV.ref a) := fun j a q => hr ⟨j, a, q⟩
    rw [no_ref hn]
    refine ⟨⟨ext, ⟨t.tb, t.nt, t.tr, fun b q => t.ext.there b (o.old b q), o.len, fun l d q => ?_, fun l io2 zs q => ?_, o.inj, o.io, o.fr⟩, fun b q => .inl q⟩, fun b q => q⟩
    · obtain ⟨w, g1, g2⟩ := o.val l d q
      exact ⟨w, g1, g2.keep kS⟩
    · obtain ⟨b, us, g1, g2, g3, g4⟩ := o.own l io2 zs q
      obtain ⟨s1, s2, s3⟩ := stay l io2 zs b us q g1 g2 g3 g4 fun j => hn j l
      exact ⟨b, us, g1, s1, s2, s3⟩
/-- an object that stands apart is known from now on -/
theorem Tr.know {p : Addr} (o : Ok G Z S H env σ) (hp : ¬ Own env σ p) (ht : H p ≠ none) (hnt : ∀ ps, H p ≠ some (.tbl ps)) : Ok G Z (fun a => S a ∨ a = p) H env σ := by
  have kk : ∀ a, S a → (S a ∨ a = p) ∧ ∀ ob, H a = some ob → H a = some ob := fun a s => ⟨.inl s, fun _ q => q⟩
  refine ⟨o.tb, fun a q ps => q.elim (fun q => o.nt a q ps) fun z => by subst z; exact hnt ps, fun a q => q.elim (o.tr a) fun z => by subst z; exact ht, o.old, o.len, fun i d q => ?_, fun i io xs q => ?_, o.inj, o.io, o.fr⟩
  · obtain ⟨v, h1, h2⟩ := o.val i d q
    exact ⟨v, h1, h2.keep kk⟩
  · obtain ⟨a, vs, h1, h2, h3, h4⟩ := o.own i io xs q
    refine ⟨a, vs, h1, h2, fun z => ?_, h4.keep kk⟩
    rcases z with z | z
    · exact h3 z
    · subst z; exact hp ⟨i, io, xs, q, h1⟩
theorem call_post {α : Type} {np : Nat} {F : Fn} {avs : List AV} {vs : List V} {g : SV → M α} {K : α → Pr → Hp → Env → Prop} {Q : VK} (o : Ok G Z S H env σ) (r : AvRp G S H σ avs vs)
    (h : Post G Z W (bnd (callF np F avs) g env) S H env σ K)
    (fin : ∀ sv outs S' H' v, Tr G Z S H env σ S' H' (bring env avs outs) σ → (∀ a, Own (bring env avs outs) σ a → Own env σ a) → RetRp G H S' H' sv v → Post G Z W (g sv (bring env avs outs)) S H env σ K → Q v H') :
    spOf G np F vs H Q (WE W σ) := by
  unfold bnd callF at h
  split at h
  · rename_i hc
    simp only [Bool.and_eq_true, decide_eq_true_eq] at hc
    split at h
    · rename_i svs e
      obtain ⟨h1, h2, h3⟩ := call_in o e hc.1 r
      refine ⟨S, svs, by rw [r.len]; exact hc.2, h1, h2, ?_⟩
      split at h
      · rename_i sv outs eF
        rw [eF]
        intro S' H' v t rr
        obtain ⟨t1, t2⟩ := call_out o e hc.1 r t
        exact fin sv outs S' H' v t1 t2 rr h
      · rename_i x outs eF
        rw [eF]
        intro S' H' cls dd t rr
        obtain ⟨t1, t2⟩ := call_out o e hc.1 r t
        exact h S' H' cls dd t1 rr
      · exact h.elim
    · exact h.elim
  · exact h.elim
theorem Tr.known {S' : Pr} {H' : Hp} {env' : Env} {p : Addr} (t : Tr G Z S H env σ S' H' env' σ) (hp : ¬ Own env' σ p) (hn : H p = none) (ht : H' p ≠ none) (hnt : ∀ ps, H' p ≠ some (.tbl ps)) : Tr G Z S H env σ (fun a => S' a ∨ a = p) H' env' σ :=
  ⟨⟨t.ext.keep, t.ext.there, fun a e => .inl (t.ext.sub a e), fun a e => e.elim (t.ext.new a) fun z => by subst z; exact .inr (.inl hn)⟩, Tr.know t.ok hp ht hnt, t.sub⟩
theorem se_call {N : List Str} {sc : Scope} {k np : Nat} {x : Str} {F : Fn} {e : Expr} {es : List Expr} {fa : M (List AV)} {p pos : Pos} (xo : XOk X N sc G k) (tk : Takes X W) (hF : FnAt X.prog X.w G X.base k x np F) (hg : Gl X x) (ha : PA X (e :: es) (tOfB G Z W fa))
    (hdb : (x == ("__debug__" : Str)) = false) (he : starEach (e :: es) X.env = (false, eval e X.env) :: starEach es X.env) (hpl : (backTo pos (starEach es X.env)).any (·.1) = false) :
    PE X (.Call (.Name x p) (e :: es) [] pos) (tOf G Z W (eCall np F fa)) := by
  obtain ⟨f, fd, ps, hm, hk, hb, fn⟩ := hF.ex
  have fn' : FnG X.prog X.w X.K X.mg X.base k f fd ps (spOf G np F) := by rw [xo.K, xo.mg]; exact fn
  refine pe_imp (pe_callW fn' xo.room xo.guards hg (by rw [xo.mg]; exact hm) (by rw [xo.K]; exact hk) (by rw [xo.K]; exact hb) tk ha hdb he hpl) fun σ H Q ⟨S, env, o, q⟩ => ?_
  refine tOfB.go o (Post.bind q) fun avs S1 H1 env1 vs t1 rx q1 => ?_
  refine call_post t1.ok rx q1 fun sv outs S' H' v t ts rr q2 => ?_
  cases sv with
  | none => exact q2.elim
  | val d => exact q2 S' H' t v rr
  | own io xs =>
    obtain ⟨a, ws, ev, r1, r2, r3, r4⟩ := rr
    subst ev
    have na : ¬ Own (bring env1 avs outs) σ a := fun z => (t1.ok.notS (ts a z)).2 r1
    have tt := t.known na r1 (by rw [r2]; simp) (fun ps z => by rw [r2] at z; cases z)
    exact q2 _ H' tt _ (.lst (.inr rfl) r2 (r4.keep fun b s => ⟨.inl s, fun _ z => z⟩))
theorem sf_call {N : List Str} {sc : Scope} {k np : Nat} {x : Str} {F : Fn} {e : Expr} {es : List Expr} {fa : M (List AV)} {p pos : Pos} (xo : XOk X N sc G k) (tk : Takes X W) (hF : FnAt X.prog X.w G X.base k x np F) (hg : Gl X x) (ha : PA X (e :: es) (tOfB G Z W fa))
    (hdb : (x == ("__debug__" : Str)) = false) (he : starEach (e :: es) X.env = (false, eval e X.env) :: starEach es X.env) (hpl : (backTo pos (starEach es X.env)).any (·.1) = false) :
    PE X (.Call (.Name x p) (e :: es) [] pos) (tOfF G Z W (eCallO np F fa)) := by
  obtain ⟨f, fd, ps, hm, hk, hb, fn⟩ := hF.ex
  have fn' : FnG X.prog X.w X.K X.mg X.base k f fd ps (spOf G np F) := by rw [xo.K, xo.mg]; exact fn
  refine pe_imp (pe_callW fn' xo.room xo.guards hg (by rw [xo.mg]; exact hm) (by rw [xo.K]; exact hk) (by rw [xo.K]; exact hb) tk ha hdb he hpl) fun σ H Q ⟨S, env, o, q⟩ => ?_
  refine tOfB.go o (Post.bind q) fun avs S1 H1 env1 vs t1 rx q1 => ?_
  refine call_post t1.ok rx q1 fun sv outs S' H' v t ts rr q2 => ?_
  cases sv with
  | none => exact q2.elim
  | val d => exact q2.elim
  | own io xs =>
    obtain ⟨a, ws, ev, r1, r2, r3, r4⟩ := rr
    subst ev
    have na : ¬ Own (bring env1 avs outs) σ a := fun z => (t1.ok.notS (ts a z)).2 r1
    refine q2 _ H' t _ _ r2 r3 na ?_ r4
    cases e : H a with
    | none => rfl
    | some ob => exact absurd r1 (t1.ext.there a (by rw [e]; simp))
end
end PL

namespace PL
open PySem PySem.Spec PyProof.Rows L2

inductive O where
  | next
  | brk
  | cnt
  | ret (r : SV)
section
variable {G : Gx} {Z : Zx} {W : WX} {S S1 S' : Pr} {H H1 H' : Hp} {env env1 env' : Env} {σ σ1 : L2.St} {X : Cx}
def PostX {α : Type} (G : Gx) (Z : Zx) (W : WX) (r : R α) (S : Pr) (H : Hp) (env : Env) (σ : L2.St) (K : α → Pr → Hp → Env → L2.St → Prop) : Prop := match r with
  | .ok a env' => ∀ S' H' σ', Tr G Z S H env σ S' H' env' σ' → K a S' H' env' σ'
  | .exc x env' => ∀ S' H' σ' cls dd, Tr G Z S H env σ S' H' env' σ' → ExRp G S' H' x cls dd → W cls dd σ' H'
  | .stuck => False
theorem PostX.mono {α : Type} {r : R α} {K K' : α → Pr → Hp → Env → L2.St → Prop} (h : PostX G Z W r S H env σ K) (k : ∀ a S' H' env' σ', Tr G Z S H env σ S' H' env' σ' → K a S' H' env' σ' → K' a S' H' env' σ') : PostX G Z W r S H env σ K' := by
  cases r with
  | ok a e => exact fun S' H' σ' t => k _ _ _ _ _ t (h S' H' σ' t)
  | exc x e => exact h
  | stuck => exact h
theorem PostX.from {α : Type} {r : R α} {K : α → Pr → Hp → Env → L2.St → Prop} (h : PostX G Z W r S H env σ K) (t : Tr G Z S H env σ S1 H1 env1 σ1) : PostX G Z W r S1 H1 env1 σ1 K := by
  cases r with
  | ok a e => exact fun S' H' σ' t' => h S' H' σ' (t.trans t')
  | exc x e => exact fun S' H' σ' c d t' => h S' H' σ' c d (t.trans t')
  | stuck => exact h
theorem PostX.bind {α β : Type} {r : R α} {g : α → M β} {K : β → Pr → Hp → Env → L2.St → Prop} (h : PostX G Z W (r.bind g) S H env σ K) :
    PostX G Z W r S H env σ fun a S1 H1 env1 σ1 => PostX G Z W (g a env1) S1 H1 env1 σ1 K := by
  cases r with
  | ok a e => exact fun S' H' σ' t => PostX.from h t
  | exc x e => exact h
  | stuck => exact h
/-- ahead of a part that stores no name -/
theorem PostX.fix {α : Type} {r : R α} {K : α → Pr → Hp → Env → L2.St → Prop} (h : PostX G Z W r S H env σ K) : Post G Z W r S H env σ fun a S' H' env' => K a S' H' env' σ := by
  cases r with
  | ok a e => exact fun S' H' t => h S' H' σ t
  | exc x e => exact fun S' H' c d t => h S' H' σ c d t
  | stuck => exact h
theorem PostX.bindE {α β : Type} {r : R α} {g : α → M β} {K : β → Pr → Hp → Env → L2.St → Prop} (h : PostX G Z W (r.bind g) S H env σ K) :
    Post G Z W r S H env σ fun a S1 H1 env1 => PostX G Z W (g a env1) S1 H1 env1 σ K := h.bind.fix

def KD (G : Gx) (Z : Zx) (D : Ends) : O → Pr → Hp → Env → L2.St → Prop := fun o S' H' _ σ' => match o with
  | .next => D.nx σ' H'
  | .brk => D.bk σ' H'
  | .cnt => D.ct σ' H'
  | .ret sv => ∀ v, RetRp G Z.H0 S' H' sv v → D.rt v H'
def tOfS (G : Gx) (Z : Zx) (W : WX) (f : M O) : TS := fun D σ H => ∃ S env, Ok G Z S H env σ ∧ PostX G Z W (f env) S H env σ (KD G Z D)
theorem tOfS.go {f : M O} {K : O → Pr → Hp → Env → L2.St → Prop} {D : Ends} (o : Ok G Z S H env σ) (h : PostX G Z W (f env) S H env σ K)
    (k : ∀ a S' H' env' σ', Tr G Z S H env σ S' H' env' σ' → K a S' H' env' σ' → KD G Z D a S' H' env' σ') : tOfS G Z W f D σ H := ⟨S, env, o, h.mono k⟩

theorem Ok.free (o : Ok G Z S H env σ) {a : Addr} (h : H a = none) : Z.H0 a = none := by
  cases e : Z.H0 a with
  | none => rfl
  | some ob => exact absurd h (o.old a (by rw [e]; simp))
theorem PostX.bind0 {α β : Type} {r : R α} {g : α → M β} {K : β → Pr → Hp → Env → L2.St → Prop} (h : PostX G Z W (r.bind g) S H env σ K) :
    Post G Z W r S H env σ fun a S1 H1 env1 => PostX G Z W (g a env1) S H env σ K := by
  cases r with
  | ok a e => exact fun S' H' t => h
  | exc x e => exact fun S' H' c d t => h S' H' σ c d t
  | stuck => exact h
/-! ### blocks -/
def sSeq (f g : M O) : M O := bnd f fun o => match o with
  | .next => g
  | o => ret o
theorem ss_nil : PSs X [] (tOfS G Z W (ret .next)) := pss_imp pss_nil fun D σ H ⟨S, env, o, q⟩ => q S H σ (Tr.refl o)
theorem ss_cons {st : Stmt} {rest : List Stmt} {f g : M O} (h1 : PS X st (tOfS G Z W f)) (h2 : PSs X rest (tOfS G Z W g)) : PSs X (st :: rest) (tOfS G Z W (sSeq f g)) :=
  pss_imp (pss_cons h1 h2) fun D σ H ⟨S, env, o, q⟩ => by
    refine tOfS.go o q.bind fun a S1 H1 env1 σ1 t q1 => ?_
    cases a with
    | next => exact ⟨S1, env1, t.ok, q1⟩
    | brk => exact q1 S1 H1 σ1 (Tr.refl t.ok)
    | cnt => exact q1 S1 H1 σ1 (Tr.refl t.ok)
    | ret sv => exact q1 S1 H1 σ1 (Tr.refl t.ok)
theorem ss_pass {pos : Pos} : PS X (.Pass pos) (tOfS G Z W (ret .next)) := ps_imp ps_pass fun D σ H ⟨S, env, o, q⟩ => q S H σ (Tr.refl o)
theorem ss_break {pos : Pos} : PS X (.Break pos) (tOfS G Z W (ret .brk)) := ps_imp ps_break fun D σ H ⟨S, env, o, q⟩ => q S H σ (Tr.refl o)
theorem ss_continue {pos : Pos} : PS X (.Continue pos) (tOfS G Z W (ret .cnt)) := ps_imp ps_continue fun D σ H ⟨S, env, o, q⟩ => q S H σ (Tr.refl o)
theorem ss_doc {x j pos pos'} : PS X (.Expr (.Constant (.str x) j pos) pos') (tOfS G Z W (ret .next)) := ps_imp ps_doc fun D σ H ⟨S, env, o, q⟩ => q S H σ (Tr.refl o)
def sStuck : M O := fun _ => .stuck
theorem ss_stuck {st : Stmt} : PS X st (tOfS G Z W sStuck) := ps_imp ps_never fun D σ H ⟨S, env, o, q⟩ => q.elim
def sExpr (f : M D) : M O := bnd f fun _ => ret .next
theorem ss_expr {e : Expr} {f : M D} {pos : Pos} (h : PE X e (tOf G Z W f)) (hs : swapsWith e none pos.line X.env = pure false) : PS X (.Expr e pos) (tOfS G Z W (sExpr f)) :=
  ps_imp (ps_expr h hs) fun D σ H ⟨S, env, o, q⟩ => by
    refine tOf.go o q.bindE fun d S1 H1 env1 v t1 rx q1 => ?_
    exact q1 S1 H1 σ (Tr.refl t1.ok)
def sRet (f : M D) : M O := bnd f fun d => ret (.ret (.val d))
theorem ss_ret {e : Expr} {f : M D} {pos : Pos} (h : PE X e (tOf G Z W f)) : PS X (.Return (some e) pos) (tOfS G Z W (sRet f)) :=
  ps_imp (ps_ret h) fun D σ H ⟨S, env, o, q⟩ => by
    refine tOf.go o q.bindE fun d S1 H1 env1 v t1 rx q1 => ?_
    exact q1 S1 H1 σ (Tr.refl t1.ok) v rx
def sRetO (f : M (List D)) : M O := bnd f fun d => ret (.ret (.own false d))
theorem ss_retO {e : Expr} {f : M (List D)} {pos : Pos} (h : PE X e (tOfF G Z W f)) : PS X (.Return (some e) pos) (tOfS G Z W (sRetO f)) :=
  ps_imp (ps_ret h) fun D σ H ⟨S, env, o, q⟩ => by
    refine ⟨S, env, o, q.bindE.mono fun ds S1 H1 env1 t1 q1 a vs h1 h2 h3 h4 h5 => ?_⟩
    refine q1 S1 H1 σ (Tr.refl t1.ok) _ ⟨a, vs, rfl, o.free h4, h1, h2, h5⟩
def sRetV (i : Nat) : M O := fun env => match env[i]? with
  | some (.val d) => .ok (.ret (.val d)) env
  | some (.own false xs) => .ok (.ret (.own false xs)) env
  | _ => .stuck
theorem ss_retV {e : Expr} {i : Nat} {pos : Pos} (h : PE X e (tVar i)) : PS X (.Return (some e) pos) (tOfS G Z W (sRetV i)) :=
  ps_imp (ps_ret h) fun D σ H ⟨S, env, o, q⟩ => by
    unfold sRetV at q
    split at q
    · rename_i d e
      obtain ⟨v, h1, h2⟩ := o.val i d e
      exact ⟨v, h1, q S H σ (Tr.refl o) v h2⟩
    · rename_i xs e
      obtain ⟨a, vs, h1, h2, h3, h4⟩ := o.own i false xs e
      exact ⟨_, h1, q S H σ (Tr.refl o) _ ⟨a, vs, rfl, o.fr i xs a e h1, h2, h3, h4⟩⟩
    · exact q.elim
def sRetN : M O := ret (.ret (.val .non))
theorem ss_retN {pos : Pos} : PS X (.Return none pos) (tOfS G Z W sRetN) := ps_imp ps_retN fun D σ H ⟨S, env, o, q⟩ => q S H σ (Tr.refl o) .non .non
def sIf (c : M Bool) (f g : M O) : M O := bnd c fun b => if b then f else g
theorem ss_if {c : Expr} {a b : List Stmt} {fc : M Bool} {f g : M O} {pos : Pos} (hc : PT X c (tOfT G Z W fc)) (ha : PSs X a (tOfS G Z W f)) (hb : PSs X b (tOfS G Z W g)) : PS X (.If c a b pos) (tOfS G Z W (sIf fc f g)) :=
  ps_imp (ps_if hc ha hb) fun D σ H ⟨S, env, o, q⟩ => by
    refine tOfT.go o q.bindE fun c S1 H1 env1 t1 q1 => ?_
    cases c with
    | true => exact ⟨S1, env1, t1.ok, q1⟩
    | false => exact ⟨S1, env1, t1.ok, q1⟩

/-! ### stores -/
theorem set_cases {env : Env} {i l : Nat} {s t : SV} (h : (env.set i s)[l]? = some t) : (l = i ∧ t = s) ∨ (l ≠ i ∧ env[l]? = some t) := by
  by_cases hl : l = i
  · subst hl
    by_cases hi : l < env.length
    · rw [List.getElem?_set_self hi] at h; exact .inl ⟨rfl, (Option.some.inj h).symm⟩
    · rw [List.getElem?_eq_none (by simpa using hi)] at h; cases h
  · rw [List.getElem?_set_ne (Ne.symm hl)] at h; exact .inr ⟨hl, h⟩
theorem σ_set_ne {σ : L2.St} {i l : Nat} {v : Option V} (h : l ≠ i) : (σ.set i v)[l]? = σ[l]? := List.getElem?_set_ne (Ne.symm h)
/-- a value is stored in a slot -/
theorem Tr.store {i : Nat} {d : D} {v : V} (o : Ok G Z S H env σ) (hi : i < env.length) (r : Rp G S H d v) : Tr G Z S H env σ S H (env.set i (.val d)) (σ.set i (some v)) := by
  have hσ : i < σ.length := by rw [o.len]; exact hi
  have sub : ∀ a, Own (env.set i (.val d)) (σ.set i (some v)) a → Own env σ a := fun a ⟨l, io, xs, h1, h2⟩ => by
    rcases set_cases h1 with ⟨_, q⟩ | ⟨hl, q⟩
    · cases q
    · rw [σ_set_ne hl] at h2; exact ⟨l, io, xs, q, h2⟩
  refine ⟨⟨fun _ _ e _ _ => e, fun _ e => e, fun _ e => e, fun _ e => .inl e⟩, ⟨o.tb, o.nt, o.tr, o.old, by simpa using o.len, fun l d' q => ?_, fun l io xs q => ?_, fun l m io xs io' ys a q1 q2 q3 q4 => ?_, fun l xs a q1 q2 => ?_, fun l xs a q1 q2 => ?_⟩, fun a q => .inl (sub a q)⟩
  · rcases set_cases q with ⟨hl, q'⟩ | ⟨hl, q'⟩
    · cases q'; subst hl; exact ⟨v, List.getElem?_set_self hσ, r⟩
    · rw [σ_set_ne hl]; exact o.val l d' q'
  · rcases set_cases q with ⟨hl, q'⟩ | ⟨hl, q'⟩
    · cases q'
    · rw [σ_set_ne hl]; exact o.own l io xs q'
  · rcases set_cases q1 with ⟨_, q'⟩ | ⟨hl, q1'⟩
    · cases q'
    · rcases set_cases q2 with ⟨_, q'⟩ | ⟨hm, q2'⟩
      · cases q'
      · rw [σ_set_ne hl] at q3; rw [σ_set_ne hm] at q4; exact o.inj l m io xs io' ys a q1' q2' q3 q4
  · rcases set_cases q1 with ⟨_, q'⟩ | ⟨hl, q1'⟩
    · cases q'
    · rw [σ_set_ne hl] at q2; exact o.io l xs a q1' q2
  · rcases set_cases q1 with ⟨_, q'⟩ | ⟨hl, q1'⟩
    · cases q'
    · rw [σ_set_ne hl] at q2; exact o.fr l xs a q1' q2
/-- an own list is stored in a slot -/
theorem Tr.storeO {i : Nat} {xs : List D} {a : Addr} {vs : List V} (o : Ok G Z S H env σ) (hi : i < env.length) (h1 : H a = some (.lst vs)) (h2 : ¬ S a) (h3 : ¬ Own env σ a) (h4 : Z.H0 a = none) (r : RpL G S H xs vs) :
    Ok G Z S H (env.set i (.own false xs)) (σ.set i (some (.ref a))) := by
  have hσ : i < σ.length := by rw [o.len]; exact hi
  refine ⟨o.tb, o.nt, o.tr, o.old, by simpa using o.len, fun l d' q => ?_, fun l io xs q => ?_, fun l m io xs io' ys b q1 q2 q3 q4 => ?_, fun l xs b q1 q2 => ?_, fun l xs b q1 q2 => ?_⟩
  · rcases set_cases q with ⟨hl, q'⟩ | ⟨hl, q'⟩
    · cases q'
    · rw [σ_set_ne hl]; exact o.val l d' q'
  · rcases set_cases q with ⟨hl, q'⟩ | ⟨hl, q'⟩
    · cases q'; subst hl; exact ⟨a, vs, List.getElem?_set_self hσ, h1, h2, r⟩
    · rw [σ_set_ne hl]; exact o.own l io xs q'
  · rcases set_cases q1 with ⟨hl, q1'⟩ | ⟨hl, q1'⟩
    · rcases set_cases q2 with ⟨hm, q2'⟩ | ⟨hm, q2'⟩
      · rw [hl, hm]
      · subst hl
        rw [List.getElem?_set_self hσ] at q3; cases q3
        rw [σ_set_ne hm] at q4
        exact absurd ⟨m, io', ys, q2', q4⟩ h3
    · rcases set_cases q2 with ⟨hm, q2'⟩ | ⟨hm, q2'⟩
      · subst hm
        rw [List.getElem?_set_self hσ] at q4; cases q4
        rw [σ_set_ne hl] at q3
        exact absurd ⟨l, io, xs, q1', q3⟩ h3
      · rw [σ_set_ne hl] at q3; rw [σ_set_ne hm] at q4; exact o.inj l m io xs io' ys b q1' q2' q3 q4
  · rcases set_cases q1 with ⟨hl, q'⟩ | ⟨hl, q1'⟩
    · cases q'
    · rw [σ_set_ne hl] at q2; exact o.io l xs b q1' q2
  · rcases set_cases q1 with ⟨hl, q'⟩ | ⟨hl, q1'⟩
    · cases q'; subst hl
      rw [List.getElem?_set_self hσ] at q2; cases q2; exact h4
    · rw [σ_set_ne hl] at q2; exact o.fr l xs b q1' q2
def putV (i : Nat) (d : D) : M O := fun env => if i < env.length then .ok .next (env.set i (.val d)) else .stuck
def putO (i : Nat) (xs : List D) : M O := fun env => if i < env.length then .ok .next (env.set i (.own false xs)) else .stuck
def sSet (i : Nat) (f : M D) : M O := bnd f (putV i)
def sSetO (i : Nat) (f : M (List D)) : M O := bnd f (putO i)
theorem putV_post {i : Nat} {d : D} {v : V} {D' : Ends} (o : Ok G Z S H env σ) (r : Rp G S H d v) (q : PostX G Z W (putV i d env) S H env σ (KD G Z D')) : D'.nx (σ.set i (some v)) H := by
  unfold putV at q
  split at q
  · rename_i hi
    exact q S H _ (Tr.store o hi r)
  · exact q.elim
theorem asg_set {i : Nat} {f : M D} {D' : Ends} (h : tOfS G Z W (sSet i f) D' σ H) : tAsg (tOf G Z W f) (gName i) D' σ H := by
  obtain ⟨S, env, o, q⟩ := h
  exact tOf.go o q.bindE fun d S1 H1 env1 v t1 rx q1 => putV_post t1.ok rx q1
/-- a fresh list goes to a slot -/
theorem Tr.fresh {i : Nat} {xs : List D} {a : Addr} {vs : List V} (o : Ok G Z S H env σ) (t : Tr G Z S H env σ S1 H1 env1 σ) (hi : i < env1.length) (h1 : H1 a = some (.lst vs)) (h2 : ¬ S1 a) (h3 : ¬ Own env1 σ a) (h4 : H a = none) (r : RpL G S1 H1 xs vs) :
    Tr G Z S H env σ S1 H1 (env1.set i (.own false xs)) (σ.set i (some (.ref a))) := by
  refine ⟨t.ext, Tr.storeO t.ok hi h1 h2 h3 (o.free h4) r, fun b ⟨l, io, ys, e1, e2⟩ => ?_⟩
  rcases set_cases e1 with ⟨hl, q⟩ | ⟨hl, q⟩
  · subst hl
    rw [List.getElem?_set_self (by rw [t.ok.len]; exact hi)] at e2
    cases e2; exact .inr h4
  · rw [σ_set_ne hl] at e2
    exact t.sub b ⟨l, io, ys, q, e2⟩
theorem asg_setO {i : Nat} {f : M (List D)} {D' : Ends} (h : tOfS G Z W (sSetO i f) D' σ H) : tAsg (tOfF G Z W f) (gName i) D' σ H := by
  obtain ⟨S, env, o, q⟩ := h
  refine ⟨S, env, o, q.bind0.mono fun ds S1 H1 env1 t1 q1 a vs h1 h2 h3 h4 h5 => ?_⟩
  unfold putO at q1
  split at q1
  · rename_i hi
    exact q1 S1 H1 _ (Tr.fresh o t1 hi h1 h2 h3 h4 h5)
  · exact q1.elim
end
end PL

namespace PL
open PySem PySem.Spec PyProof.Rows L2
section
variable {G : Gx} {Z : Zx} {W : WX} {S S1 S' : Pr} {H H1 H' : Hp} {env env1 env' : Env} {σ σ1 : L2.St} {X : Cx}

/-! ### plain assignment -/
theorem ss_set {i : Nat} {x : Str} {e : Expr} {f : M D} {pos pos' : Pos} (hN : X.N.Nodup) (hi : X.N[i]? = some x) (hx : Loc X.env.scope x) (he : PE X e (tOf G Z W f)) (hs : swapsWith e (some (.Name x pos')) pos.line X.env = pure false) (hf : X.fn x = true ∨ X.env.scope.names.lookup x = some .local) :
    PS X (.Assign [.Name x pos'] e pos) (tOfS G Z W (sSet i f)) := ps_imp (ps_set hN hi hx he hs hf) fun D σ H h => asg_set h
theorem ss_setO {i : Nat} {x : Str} {e : Expr} {f : M (List D)} {pos pos' : Pos} (hN : X.N.Nodup) (hi : X.N[i]? = some x) (hx : Loc X.env.scope x) (he : PE X e (tOfF G Z W f)) (hs : swapsWith e (some (.Name x pos')) pos.line X.env = pure false) (hf : X.fn x = true ∨ X.env.scope.names.lookup x = some .local) :
    PS X (.Assign [.Name x pos'] e pos) (tOfS G Z W (sSetO i f)) := ps_imp (ps_set hN hi hx he hs hf) fun D σ H h => asg_setO h
/-- a, b = x, y -/
def sPar (i j : Nat) (f g : M D) : M O := bnd f fun a => bnd g fun b => fun env => if i < env.length ∧ j < env.length then .ok .next ((env.set i (.val a)).set j (.val b)) else .stuck
theorem ss_par {i j : Nat} {x y : Str} {a b : Expr} {f g : M D} {px py pt pos : Pos} {kt k2 pt2} (hc : X.calm = true) (hN : X.N.Nodup) (hi : X.N[i]? = some x) (hj : X.N[j]? = some y) (hij : i ≠ j)
    (hx : X.env.scope.names.lookup x = some .local) (hy : X.env.scope.names.lookup y = some .local) (ha : PE X a (tOf G Z W f)) (hb : PE X b (tOf G Z W g)) (s1 : starEach (a :: [b]) X.env = (false, eval a X.env) :: starEach [b] X.env) (s2 : starEach (b :: []) X.env = (false, eval b X.env) :: starEach [] X.env)
    (hw : swappedStores [.Tuple [.Name x px, .Name y py] kt pt] (.Tuple [a, b] k2 pt2) X.env = pure (some [x, y])) :
    PS X (.Assign [.Tuple [.Name x px, .Name y py] kt pt] (.Tuple [a, b] k2 pt2) pos) (tOfS G Z W (sPar i j f g)) :=
  ps_imp (ps_par hc hN hi hj hij hx hy (pa_cons ha (pa_cons hb pa_nil s2) s1) hw) fun D σ H ⟨S, env, o, q⟩ => by
    show tCons (tOf G Z W f) (tCons (tOf G Z W g) tNil) σ H _
    refine tOf.go o q.bindE fun da S1 H1 env1 v t1 rx q1 => ?_
    refine tOf.go t1.ok q1.bindE fun db S2 H2 env2 u t2 ry q2 => ?_
    refine ⟨v, u, rfl, ?_⟩
    split at q2
    · rename_i hl
      have a1 := Tr.store t2.ok hl.1 (t2.rp t1.ok rx)
      have a2 := Tr.store a1.ok (by simpa using hl.2) ry
      exact q2 S2 H2 _ (a1.trans a2)
    · exact q2.elim

/-! ### targets -/
inductive Tg where
  | nm (i : Nat)
  | tp (ts : List Tg)
mutual
def asg : Tg → D → Env → Option Env
  | .nm i, d, env => if i < env.length then some (env.set i (.val d)) else none
  | .tp ts, .tup ds, env => asgL ts ds env
  | .tp _, _, _ => none
def asgL : List Tg → List D → Env → Option Env
  | [], [], env => some env
  | t :: ts, d :: ds, env => match asg t d env with
    | some env1 => asgL ts ds env1
    | none => none
  | _, _, _ => none
end
mutual
def Tg.vars : Tg → List Nat
  | .nm i => [i]
  | .tp ts => Tg.varsL ts
def Tg.varsL : List Tg → List Nat
  | [] => []
  | t :: ts => t.vars ++ Tg.varsL ts
end
/-- what a target's store leaves -/
structure Stored (G : Gx) (Z : Zx) (S : Pr) (H : Hp) (env : Env) (σ : L2.St) (env' : Env) (σ' : L2.St) (vs : List Nat) : Prop where
  tr : Tr G Z S H env σ S H env' σ'
  len : σ'.length = σ.length
  same : ∀ j, j ∉ vs → σ'[j]? = σ[j]?
def tOfG (G : Gx) (Z : Zx) (t : Tg) : TG := fun v σ H Q => ∃ S env d env', Ok G Z S H env σ ∧ Rp G S H d v ∧ asg t d env = some env' ∧ ∀ σ', Stored G Z S H env σ env' σ' t.vars → Q σ' H
def tOfGs (G : Gx) (Z : Zx) (ts : List Tg) : TGs := fun vs σ H Q => ∃ S env ds env', Ok G Z S H env σ ∧ RpL G S H ds vs ∧ asgL ts ds env = some env' ∧ ∀ σ', Stored G Z S H env σ env' σ' (Tg.varsL ts) → Q σ' H
theorem pg_imp {e : Expr} {t t' : TG} (h : PG X e t) (k : ∀ v σ H Q, t' v σ H Q → t v σ H Q) : PG X e t' := ⟨fun pins s σ H v u Q I r h' => h.run pins s σ H v u Q I r (k _ _ _ _ h')⟩
theorem pgs_imp {e : List Expr} {t t' : TGs} (h : PGs X e t) (k : ∀ v σ H Q, t' v σ H Q → t v σ H Q) : PGs X e t' := ⟨fun pins s σ H v u Q I r h' => h.run pins s σ H v u Q I r (k _ _ _ _ h')⟩
theorem sg_name {i : Nat} {x : Str} {pos : Pos} (hN : X.N.Nodup) (hi : X.N[i]? = some x) (hx : Loc X.env.scope x) (hf : X.fn x = true ∨ X.env.scope.names.lookup x = some .local) : PG X (.Name x pos) (tOfG G Z (.nm i)) :=
  pg_imp (pg_name hN hi hx hf) fun v σ H Q ⟨S, env, d, env', o, r, e, k⟩ => by
    simp only [asg] at e
    split at e <;> cases e
    rename_i hl
    refine k _ ⟨Tr.store o hl r, by simp, fun j hj => ?_⟩
    rw [List.getElem?_set_ne]
    intro z; subst z; exact hj (by simp [Tg.vars])
theorem sgs_nil : PGs X [] (tOfGs G Z []) := pgs_imp pgs_nil fun v σ H Q ⟨S, env, ds, env', o, r, e, k⟩ => by
  cases ds with
  | nil =>
    cases r
    simp only [asgL, Option.some.injEq] at e
    subst e
    exact ⟨rfl, k σ ⟨Tr.refl o, rfl, fun _ _ => rfl⟩⟩
  | cons d ds => simp [asgL] at e
theorem sgs_cons {e : Expr} {es : List Expr} {t : Tg} {ts : List Tg} (h1 : PG X e (tOfG G Z t)) (h2 : PGs X es (tOfGs G Z ts)) (hs : (assignEach (e :: es) X.env).map (·.2) = assign e X.env :: (assignEach es X.env).map (·.2)) : PGs X (e :: es) (tOfGs G Z (t :: ts)) :=
  pgs_imp (pgs_cons h1 h2 hs) fun v σ H Q ⟨S, env, ds, env', o, r, e, k⟩ => by
    cases ds with
    | nil => simp [asgL] at e
    | cons d ds =>
      cases r with
      | cons r rr =>
        simp only [asgL] at e
        split at e
        · rename_i env1 e1
          refine ⟨_, _, rfl, S, env, d, env1, o, r, e1, fun σ1 st => ?_⟩
          refine ⟨S, env1, ds, env', st.tr.ok, rr, e, fun σ2 st2 => ?_⟩
          refine k σ2 ⟨st.tr.trans st2.tr, st2.len.trans st.len, fun j hj => ?_⟩
          simp only [Tg.varsL, List.mem_append, not_or] at hj
          rw [st2.same j hj.2, st.same j hj.1]
        · cases e
theorem asgL_len : ∀ {ts : List Tg} {ds : List D} {env env' : Env}, asgL ts ds env = some env' → ds.length = ts.length
  | [], [], _, _, _ => rfl
  | [], _ :: _, _, _, e => by simp [asgL] at e
  | _ :: _, [], _, _, e => by simp [asgL] at e
  | t :: ts, d :: ds, env, env', e => by
    simp only [asgL] at e
    split at e
    · simp [asgL_len e]
    · cases e
theorem sg_tup {es : List Expr} {k : Nat} {ts : List Tg} {pos : Pos} (hc : X.calm = true) (hK : X.K = G.K) (h : PGs X es (tOfGs G Z ts)) (hn : (assignEach es X.env).length = ts.length) (hst : (assignEach es X.env).findIdx? (·.1) = none) : PG X (.Tuple es k pos) (tOfG G Z (.tp ts)) :=
  pg_imp (pg_tup hc h hn hst) fun v σ H Q ⟨S, env, d, env', o, r, e, kk⟩ => by
    cases d <;> simp only [asg] at e <;> try contradiction
    rename_i ds
    cases r with
    | tup s q l =>
      rw [hK]
      exact ⟨_, _, rfl, q, by rw [l.length, asgL_len e], S, env, ds, env', o, l, e, fun σ' st => kk σ' (by simpa only [Tg.vars] using st)⟩
/-- target = value -/
def sAsg (t : Tg) (f : M D) : M O := bnd f fun d => fun env => match asg t d env with
  | some env' => .ok .next env'
  | none => .stuck
theorem ss_asg {tg e : Expr} {t : Tg} {f : M D} {pos : Pos} (he : PE X e (tOf G Z W f)) (hg : PG X tg (tOfG G Z t)) (hs : swapsWithSole [tg] e pos.line X.env = pure false) (hw : swappedStores [tg] e X.env = pure none)
    (h1 : (assignEach [tg] X.env).map (·.2) = [assign tg X.env]) : PS X (.Assign [tg] e pos) (tOfS G Z W (sAsg t f)) :=
  ps_imp (ps_asg he hg hs hw h1) fun D σ H ⟨S, env, o, q⟩ => by
    refine tOf.go o q.bindE fun d S1 H1 env1 v t1 rx q1 => ?_
    split at q1
    · rename_i env' e
      exact ⟨S1, env1, d, env', t1.ok, rx, e, fun σ' st => q1 S1 H1 σ' st.tr⟩
    · exact q1.elim

/-! ### own lists -/
def chk (j : Nat) : M Unit := fun env => if isOwn env[j]? then .ok () env else .stuck
theorem chk_post {α : Type} {j : Nat} {g : Unit → M α} {K : α → Pr → Hp → Env → L2.St → Prop} (o : Ok G Z S H env σ) (q : PostX G Z W (bnd (chk j) g env) S H env σ K) : ∃ a vs, σ[j]? = some (some (.ref a)) ∧ H a = some (.lst vs) ∧ PostX G Z W (g () env) S H env σ K := by
  unfold bnd chk at q
  split at q
  · rename_i h
    unfold isOwn at h
    split at h
    · rename_i io xs e
      obtain ⟨a, vs, h1, h2, _⟩ := o.own j io xs e
      exact ⟨a, vs, h1, h2, q⟩
    · cases h
  · exact q.elim
theorem chk_postE {α : Type} {j : Nat} {g : Unit → M α} {K : α → Pr → Hp → Env → Prop} (o : Ok G Z S H env σ) (q : Post G Z W (bnd (chk j) g env) S H env σ K) : ∃ a vs, σ[j]? = some (some (.ref a)) ∧ H a = some (.lst vs) ∧ Post G Z W (g () env) S H env σ K := by
  unfold bnd chk at q
  split at q
  · rename_i h
    unfold isOwn at h
    split at h
    · rename_i io xs e
      obtain ⟨a, vs, h1, h2, _⟩ := o.own j io xs e
      exact ⟨a, vs, h1, h2, q⟩
    · cases h
  · exact q.elim
/-- an own list is changed -/
theorem Tr.chg {j : Nat} {io : Bool} {xs ys : List D} {a : Addr} {ws : List V} (o : Ok G Z S H env σ) (e : env[j]? = some (.own io xs)) (hs : σ[j]? = some (some (.ref a))) (r : RpL G S H ys ws) :
    Tr G Z S H env σ S (upd H a (.lst ws)) (env.set j (.own io ys)) σ := by
  obtain ⟨a', vs, e1, e2, e3, _⟩ := o.own j io xs e
  rw [hs] at e1; cases e1
  have hj : j < env.length := (List.getElem?_eq_some_iff.mp e).1
  have kk : ∀ b, S b → S b ∧ ∀ ob, H b = some ob → upd H a (.lst ws) b = some ob := fun b s => ⟨s, fun ob q => by
    rw [upd_ne (fun z => by subst z; exact e3 s)]; exact q⟩
  have back : ∀ {l : Nat} {io' : Bool} {zs : List D}, (env.set j (.own io ys))[l]? = some (.own io' zs) → ∃ zs', env[l]? = some (.own io' zs') := fun {l io' zs} q => by
    rcases set_cases q with ⟨h1, h2⟩ | ⟨_, h2⟩
    · cases h2; subst h1; exact ⟨xs, e⟩
    · exact ⟨zs, h2⟩
  refine ⟨⟨fun b ob q n _ => ?_, fun b q => ?_, fun b q => q, fun b q => .inl q⟩, ⟨tabs_upd (fun o' z => by rw [e2] at z; cases z; exact nt_lst) o.tb, fun b q ps => ?_, fun b q => ?_, fun b q => ?_, by simpa using o.len, fun l d q => ?_, fun l io' zs q => ?_, fun l m io1 zs1 io2 zs2 b q1 q2 q3 q4 => ?_, fun l zs b q1 q2 => ?_, fun l zs b q1 q2 => ?_⟩, fun b ⟨l, io', zs, q1, q2⟩ => ?_⟩
  · rw [upd_ne (fun z => by subst z; exact n ⟨j, io, xs, e, hs⟩)]; exact q
  · by_cases z : b = a
    · subst z; rw [upd_same]; simp
    · rw [upd_ne z]; exact q
  · by_cases z : b = a
    · subst z; rw [upd_same]; simp
    · rw [upd_ne z]; exact o.nt b q ps
  · by_cases z : b = a
    · subst z; rw [upd_same]; simp
    · rw [upd_ne z]; exact o.tr b q
  · by_cases z : b = a
    · subst z; rw [upd_same]; simp
    · rw [upd_ne z]; exact o.old b q
  · rcases set_cases q with ⟨_, h2⟩ | ⟨_, h2⟩
    · cases h2
    · obtain ⟨v, g1, g2⟩ := o.val l d h2
      exact ⟨v, g1, g2.keep kk⟩
  · rcases set_cases q with ⟨h1, h2⟩ | ⟨hl, h2⟩
    · cases h2; subst h1
      exact ⟨a, ws, hs, upd_same, e3, r.keep kk⟩
    · obtain ⟨b, us, g1, g2, g3, g4⟩ := o.own l io' zs h2
      refine ⟨b, us, g1, ?_, g3, g4.keep kk⟩
      rw [upd_ne (fun z => by subst z; exact hl (o.inj l j io' zs io xs b h2 e g1 hs))]
      exact g2
  · obtain ⟨_, b1⟩ := back q1
    obtain ⟨_, b2⟩ := back q2
    exact o.inj l m _ _ _ _ b b1 b2 q3 q4
  · obtain ⟨_, b1⟩ := back q1
    exact o.io l _ b b1 q2
  · obtain ⟨_, b1⟩ := back q1
    exact o.fr l _ b b1 q2
  · obtain ⟨_, b1⟩ := back q1
    exact .inl ⟨l, io', _, b1, q2⟩
/-- x[i] = v of an own list -/
def setIx (j : Nat) (k d : D) : M O := fun env => match env[j]?, k with
  | some (.own io xs), .int n => match ixN xs.length n with
    | some m => .ok .next (env.set j (.own io (xs.set m d)))
    | none => .stuck
  | _, _ => .stuck
theorem setIx_post {j : Nat} {k d : D} {x v : V} {K : O → Pr → Hp → Env → L2.St → Prop} {Q : Hp → Prop} {a : Addr} (o : Ok G Z S H env σ) (hs : σ[j]? = some (some (.ref a))) (rk : Rp G S H k x) (rd : Rp G S H d v) (q : PostX G Z W (setIx j k d env) S H env σ K)
    (fin : ∀ S' H' env', Tr G Z S H env σ S' H' env' σ → K .next S' H' env' σ → Q H') : rSetL (.ref a) x v H Q := by
  unfold setIx at q
  split at q
  · rename_i io xs n e
    split at q
    · rename_i m hm
      obtain ⟨a', vs, e1, e2, e3, e4⟩ := o.own j io xs e
      rw [hs] at e1; cases e1
      cases rk
      refine ⟨a, vs, n, m, rfl, rfl, e2, by rw [e4.length]; exact hm, ?_⟩
      have t := Tr.chg o e hs (e4.set rd m)
      exact fin _ _ _ t (q _ _ _ t)
    · exact q.elim
  · exact q.elim
def sSetIx (j : Nat) (fi fe : M D) : M O := bnd fe fun d => bnd (chk j) fun _ => bnd fi fun k => setIx j k d
theorem ss_setIx {j : Nat} {ox ix e : Expr} {fi fe : M D} {p1 pos : Pos} (ho : PE X ox (tVar j)) (hi : PE X ix (tOf G Z W fi)) (he : PE X e (tOf G Z W fe))
    (ha : ∀ v, assign (.Subscript ox ix p1) X.env v = (do
      let ov ← holding [v] (eval ox X.env)
      let iv ← holding [v, ov] (eval ix X.env)
      standAt p1
      holding [v, ov, iv] (setItem ov iv v)
      release [v, ov, iv] []))
    (hs : swapsWithSole [.Subscript ox ix p1] e pos.line X.env = pure false) (hw : swappedStores [.Subscript ox ix p1] e X.env = pure none) (h1 : (assignEach [.Subscript ox ix p1] X.env).map (·.2) = [assign (.Subscript ox ix p1) X.env]) :
    PS X (.Assign [.Subscript ox ix p1] e pos) (tOfS G Z W (sSetIx j fi fe)) :=
  ps_imp (ps_asg he (pg_sub ho hi set_list ha) hs hw h1) fun D σ H ⟨S, env, o, q⟩ => by
    refine tOf.go o q.bindE fun d S1 H1 env1 v t1 rx q1 => ?_
    obtain ⟨a, vs, c1, c2, q2⟩ := chk_post t1.ok q1
    refine ⟨_, c1, ?_⟩
    refine tOf.go t1.ok q2.bindE fun k S2 H2 env2 y t2 ry q3 => ?_
    exact setIx_post t2.ok c1 ry (t2.rp t1.ok rx) q3 fun S' H' env' t h => h
/-- x[i] op= v of an own list -/
def getIx (j : Nat) (k : D) : M D := fun env => match env[j]? with
  | some (.own _ xs) => match gIx (.lst xs) k with
    | some d => .ok d env
    | none => .stuck
  | _ => .stuck
theorem getIx_post {α : Type} {j : Nat} {k : D} {g : D → M α} {K : α → Pr → Hp → Env → L2.St → Prop} (q : PostX G Z W (bnd (getIx j k) g env) S H env σ K) :
    ∃ io xs d, env[j]? = some (.own io xs) ∧ gIx (.lst xs) k = some d ∧ PostX G Z W (g d env) S H env σ K := by
  unfold bnd getIx at q
  cases e : env[j]? with
  | none => rw [e] at q; exact q.elim
  | some sv =>
    rw [e] at q
    cases sv with
    | own io xs =>
      cases e2 : gIx (.lst xs) k with
      | none => simp only [e2] at q; exact q.elim
      | some d => simp only [e2] at q; exact ⟨io, xs, d, rfl, e2, q⟩
    | none => exact q.elim
    | val d => exact q.elim
def sAugIx (j : Nat) (g : D → D → Option D) (fi fe : M D) : M O := bnd (chk j) fun _ => bnd fi fun k => bnd (getIx j k) fun d => bnd fe fun e => bnd (lif (g d e)) fun z => setIx j k z
theorem pget_list : PGet X (rIxL X.K) := by
  intro pins s σ H o i ov iv Q I ro ri ⟨p, xs, n, z, eo, ei, hq, he, q⟩
  subst eo; subst ei
  cases ro
  obtain ⟨t, rfl⟩ := ri
  obtain ⟨its, r, pl, hz⟩ := I.list hq
  obtain ⟨j, h1, h2, h3, h4, h5⟩ := atI_get he
  obtain ⟨w, ew, rw'⟩ := r.get h2
  have hl := r.length
  have hn := line63
  by_cases h0 : 0 ≤ n
  · have hj : n.toNat = j := by
      rw [seqIndex_of h0 h5] at h1
      exact Option.some.inj h1
    exact wpAny_getItem_list pl.isList h0 (by omega) (by rw [hj]; simpa using ew) ⟨z, H, I, rw', q⟩
  · have hj : (n + (its.toArray.size : Int)).toNat = j := by
      rw [seqIndex_neg (by omega) h4] at h1
      rw [List.size_toArray, ← hl]
      exact Option.some.inj h1
    exact wpAny_getItem_list_neg pl.isList (by omega) (by rw [List.size_toArray] <;> omega) (by omega) (by rw [hj]; simpa using ew) ⟨z, H, I, rw', q⟩
theorem ss_augIx {j : Nat} {ox ix e : Expr} {fi fe : M D} {g : D → D → Option D} {r : R2} {op : Operator} {p1 pos : Pos} (hK : X.K = G.K) (ho : PE X ox (tVar j)) (hi : PE X ix (tOf G Z W fi)) (he : PE X e (tOf G Z W fe)) (hp : OpR X (inplaceOp op) r) (hr : OpD G g r)
    (ha : ∀ ov iv new, augStore ix ov iv new = (do holding [new, ov, iv] (setItem ov iv new); release [new, ov, iv] []; pure .next)) :
    PS X (.AugAssign (.Subscript ox ix p1) op e pos) (tOfS G Z W (sAugIx j g fi fe)) :=
  ps_imp (ps_augS ho hi pget_list he hp set_list ha) fun D σ H ⟨S, env, o, q⟩ => by
    obtain ⟨a, vs, c1, c2, q0⟩ := chk_post o q
    refine ⟨_, c1, ?_⟩
    refine tOf.go o q0.bindE fun k S1 H1 env1 x t1 rx q1 => ?_
    obtain ⟨io, xs, d, e1, e2, q1'⟩ := getIx_post q1
    obtain ⟨a', ws, f1, f2, f3, f4⟩ := t1.ok.own j io xs e1
    rw [c1] at f1; cases f1
    cases rx <;> simp only [gIx] at e2 <;> try contradiction
    rename_i n
    obtain ⟨v, g1, g2⟩ := atI_rp f4 e2
    refine ⟨a, ws, n, v, rfl, rfl, by rw [hK]; exact SqL.of f2, g1, ?_⟩
    refine tOf.go t1.ok (PostX.bindE q1') fun de S2 H2 env2 y t2 ry q2 => ?_
    have q2' := q2
    cases hg : g d de with
    | none => rw [hg] at q2'; exact q2'.elim
    | some z =>
      rw [hg] at q2'
      refine hr Z S2 H2 env2 σ d de z v y _ t2.ok (t2.rp t1.ok g2) ry hg fun S3 H3 t3 _ w rw' => ?_
      refine setIx_post t3.ok c1 (.int n) rw' (PostX.from q2' t3) fun S' H' env' t h => h
/-- name op= e -/
def sAug (i : Nat) (g : D → D → Option D) (fe : M D) : M O := fun env => match env[i]? with
  | some (.val d) => (bnd fe fun e => bnd (lif (g d e)) (putV i)) env
  | _ => .stuck
theorem ss_aug {i : Nat} {x : Str} {e : Expr} {fe : M D} {g : D → D → Option D} {r : R2} {op : Operator} {pos pos' : Pos} (hN : X.N.Nodup) (hi : X.N[i]? = some x) (hx : Loc X.env.scope x) (he : PE X e (tOf G Z W fe)) (hp : OpR X (inplaceOp op) r) (hr : OpD G g r) (hf : X.fn x = true ∨ X.env.scope.names.lookup x = some .local) :
    PS X (.AugAssign (.Name x pos') op e pos) (tOfS G Z W (sAug i g fe)) :=
  ps_imp (ps_aug hN hi hx he hp hf) fun D σ H ⟨S, env, o, q⟩ => by
    unfold sAug at q
    split at q
    · rename_i d ed
      obtain ⟨v, h1, h2⟩ := o.val i d ed
      refine ⟨v, h1, ?_⟩
      refine tOf.go o q.bindE fun de S2 H2 env2 y t2 ry q2 => ?_
      cases hg : g d de with
      | none => rw [hg] at q2; exact q2.elim
      | some z =>
        rw [hg] at q2
        refine hr Z S2 H2 env2 σ d de z v y _ t2.ok (t2.rp o h2) ry hg fun S3 H3 t3 _ w rw' => ?_
        exact putV_post t3.ok rw' (PostX.from q2 t3)
    · exact q.elim
/-- x.append(e) -/
def pushO (j : Nat) (d : D) : M O := fun env => match env[j]? with
  | some (.own io xs) => if fits (xs.length + 1) then .ok .next (env.set j (.own io (xs ++ [d]))) else .stuck
  | _ => .stuck
def sApp (j : Nat) (fe : M D) : M O := bnd (chk j) fun _ => bnd fe (pushO j)
theorem ss_app {j : Nat} {x : Str} {e : Expr} {fe : M D} {p1 apos cpos pos : Pos} (ho : PE X (.Name x p1) (tVar j)) (he : PE X e (tOf G Z W fe)) (hK : X.K = G.K) (hst : starEach (e :: []) X.env = (false, eval e X.env) :: starEach [] X.env) (hline : (apos.endLine == cpos.line) = true) :
    PS X (.Expr (.Call (.Attribute (.Name x p1) "append" apos) [e] [] cpos) pos) (tOfS G Z W (sApp j fe)) :=
  ps_imp (ps_expr (pe_bm PySem.F.plainAttrs_list PySem.F.slot_list_append PySem.F.type_list_append mt_append ho (pa_cons he pa_nil hst) rfl (by rw [hst]; rfl) hline hst rfl) rfl) fun D σ H ⟨S, env, o, q⟩ => by
    obtain ⟨a, vs, c1, c2, q0⟩ := chk_post o q
    refine ⟨_, c1, .inl ⟨rfl, _, SqL.of c2⟩, ?_⟩
    refine tOf.go o q0.bindE fun d S1 H1 env1 v t1 rx q1 => ?_
    unfold pushO at q1
    split at q1
    · rename_i io xs e1
      split at q1
      · rename_i hz
        obtain ⟨a', ws, f1, f2, f3, f4⟩ := t1.ok.own j io xs e1
        rw [c1] at f1; cases f1
        have t := Tr.chg t1.ok e1 c1 (f4.append (.cons rx .nil))
        have hz' := fits_line hz
        exact ⟨a, ws, v, rfl, rfl, f2, by rw [f4.length]; omega, q1 _ _ _ t⟩
      · exact q1.elim
    · exact q1.elim
/-- x.extend(e) of a list -/
def extO (j : Nat) (d : D) : M O := fun env => match env[j]?, d with
  | some (.own io xs), .lst ys => if fits (xs.length + ys.length) then .ok .next (env.set j (.own io (xs ++ ys))) else .stuck
  | _, _ => .stuck
def sExt (j : Nat) (fe : M D) : M O := bnd (chk j) fun _ => bnd fe (extO j)
theorem ss_ext {j : Nat} {x : Str} {e : Expr} {fe : M D} {p1 apos cpos pos : Pos} (ho : PE X (.Name x p1) (tVar j)) (he : PE X e (tOf G Z W fe)) (hK : X.K = G.K) (hst : starEach (e :: []) X.env = (false, eval e X.env) :: starEach [] X.env) (hline : (apos.endLine == cpos.line) = true) :
    PS X (.Expr (.Call (.Attribute (.Name x p1) "extend" apos) [e] [] cpos) pos) (tOfS G Z W (sExt j fe)) :=
  ps_imp (ps_expr (pe_bm PySem.F.plainAttrs_list PySem.F.slot_list_extend PySem.F.type_list_extend mt_extend ho (pa_cons he pa_nil hst) rfl (by rw [hst]; rfl) hline hst rfl) rfl) fun D σ H ⟨S, env, o, q⟩ => by
    obtain ⟨a, vs, c1, c2, q0⟩ := chk_post o q
    refine ⟨_, c1, .inl ⟨rfl, _, SqL.of c2⟩, ?_⟩
    refine tOf.go o q0.bindE fun d S1 H1 env1 v t1 rx q1 => ?_
    unfold extO at q1
    split at q1
    · rename_i io xs ys e1
      split at q1
      · rename_i hz
        obtain ⟨a', ws, f1, f2, f3, f4⟩ := t1.ok.own j io xs e1
        rw [c1] at f1; cases f1
        cases rx with
        | lst s q l =>
          have t := Tr.chg t1.ok e1 c1 (f4.append l)
          have hz' := fits_line hz
          exact ⟨a, _, ws, _, rfl, rfl, f2, q, by rw [f4.length, l.length]; exact hz', q1 _ _ _ t⟩
      · exact q1.elim
    · exact q1.elim
/-- x.pop() -/
def popO (j : Nat) : M D := fun env => match env[j]? with
  | some (.own io xs) => match xs[xs.length - 1]? with
    | some d => .ok d (env.set j (.own io xs.dropLast))
    | none => .stuck
  | _ => .stuck
def ePop (j : Nat) : M D := popO j
theorem RpL.dropLast : ∀ {ds : List D} {vs : List V}, RpL G S H ds vs → RpL G S H ds.dropLast vs.dropLast
  | _, _, .nil => .nil
  | _, _, .cons h .nil => .nil
  | _, _, .cons h (.cons h2 t) => .cons h (RpL.dropLast (.cons h2 t))
theorem se_pop {j : Nat} {x : Str} {p1 apos cpos : Pos} (ho : PE X (.Name x p1) (tVar j)) (hline : (apos.endLine == cpos.line) = true) :
    PE X (.Call (.Attribute (.Name x p1) "pop" apos) [] [] cpos) (tOf G Z W (ePop j)) :=
  pe_imp (pe_bm0 PySem.F.plainAttrs_list PySem.F.slot_list_pop PySem.F.type_list_pop mt_pop ho rfl hline) fun σ H Q ⟨S, env, o, q⟩ => by
    unfold ePop popO at q
    split at q
    · rename_i io xs e1
      split at q
      · rename_i d hd
        obtain ⟨a, ws, f1, f2, f3, f4⟩ := o.own j io xs e1
        obtain ⟨v, g1, g2⟩ := f4.get hd
        have t := Tr.chg o e1 f1 f4.dropLast
        refine ⟨_, f1, .inl ⟨rfl, _, SqL.of f2⟩, a, ws, v, rfl, rfl, f2, by rw [f4.length]; exact g1, ?_⟩
        exact q _ _ t v (t.rp o g2)
      · exact q.elim
    · exact q.elim
/-- x[i] read of an own list -/
def eIxO (j : Nat) (fi : M D) : M D := bnd (chk j) fun _ => bnd fi (getIx j)
theorem se_ixO {j : Nat} {ox ix : Expr} {fi : M D} {pos : Pos} (hK : X.K = G.K) (ho : PE X ox (tVar j)) (hi : PE X ix (tOf G Z W fi)) (hs : PlainIx ix) : PE X (.Subscript ox ix pos) (tOf G Z W (eIxO j fi)) :=
  pe_imp (pe_ix ix_list ho hi hs) fun σ H Q ⟨S, env, o, q⟩ => by
    obtain ⟨a, vs, c1, c2, q0⟩ := chk_postE o q
    refine ⟨_, c1, ?_⟩
    refine tOf.go o (Post.bind q0) fun k S1 H1 env1 x t1 rx q1 => ?_
    unfold getIx at q1
    split at q1
    · rename_i io xs e1
      split at q1
      · rename_i d e2
        obtain ⟨a', ws, f1, f2, f3, f4⟩ := t1.ok.own j io xs e1
        rw [c1] at f1; cases f1
        cases rx <;> simp only [gIx] at e2 <;> try contradiction
        rename_i n
        obtain ⟨v, g1, g2⟩ := atI_rp f4 e2
        exact ⟨a, ws, n, v, rfl, rfl, by rw [hK]; exact SqL.of f2, g1, q1 S1 H1 (Tr.refl t1.ok) v g2⟩
      · exact q1.elim
    · exact q1.elim
/-- len(x), tuple(x), list(x), .. of an own list: by a rule that takes one list -/
def eFnO (g : List D → Option D) (j : Nat) : M D := fun env => match env[j]? with
  | some (.own _ xs) => match g [.lst xs] with
    | some d => .ok d env
    | none => .stuck
  | some (.val d) => match g [d] with
    | some d => .ok d env
    | none => .stuck
  | _ => .stuck
/-- such a rule keeps nothing of its argument -/
def CallO (G : Gx) (g : List D → Option D) (r : List V → Hp → VK → Prop) : Prop :=
  ∀ (Z : Zx) (S : Pr) (H : Hp) (env : Env) (σ : L2.St) (xs : List D) (vs : List V) (a : Addr) (d : D) (Q : VK), Ok G Z S H env σ → H a = some (.lst vs) → RpL G S H xs vs → g [.lst xs] = some d →
    (∀ S' H', Tr G Z S H env σ S' H' env σ → Pu H H' → ∀ v, Rp G S' H' d v → Q v H') → r [.ref a] H Q
theorem tCBO_of {g : List D → Option D} {r : List V → Hp → VK → Prop} {j : Nat} {Q : VK} (h1 : CallD G g r) (h2 : CallO G g r) (h : tOf G Z W (eFnO g j) σ H Q) : tCB r (tCons (tVar j) tNil) σ H Q := by
  obtain ⟨S, env, o, q⟩ := h
  unfold eFnO at q
  split at q
  · rename_i io xs e1
    split at q
    · rename_i d hd
      obtain ⟨a, ws, f1, f2, f3, f4⟩ := o.own j io xs e1
      exact ⟨_, f1, h2 Z S H env σ xs ws a d Q o f2 f4 hd fun S' H' t _ => q S' H' t⟩
    · exact q.elim
  · rename_i d0 e1
    split at q
    · rename_i d hd
      obtain ⟨v, f1, f2⟩ := o.val j d0 e1
      exact ⟨_, f1, h1 Z S H env σ [d0] d [v] Q o (.cons f2 .nil) hd fun S' H' t _ => q S' H' t⟩
    · exact q.elim
  · exact q.elim
theorem o_len : CallO G gLen (rLenA G.K) := by
  intro Z S H env σ xs vs a d Q o hl l e k
  cases e
  exact .inl ⟨_, _, rfl, .inl ⟨_, SqL.of hl, l.length.symm⟩, fin_of o k (.int _)⟩
theorem o_tuple : CallO G gTuple (fun xs H Q => ∃ p ys, xs = [.ref p] ∧ ((SqL G.K H p ys ∧ ∀ l, H l = none → Q (.ref l) (upd H l (.tup ys))) ∨ (SqT G.K H p ys ∧ Q (.ref p) H))) := by
  intro Z S H env σ xs vs a d Q o hl l e k
  cases e
  exact ⟨_, _, rfl, .inl ⟨SqL.of hl, fun p hp => fin_T o k hp l⟩⟩
theorem o_list : CallO G gList (fun xs H Q => ∃ p ys, xs = [.ref p] ∧ (SqL G.K H p ys ∨ SqT G.K H p ys) ∧ ∀ l, H l = none → Q (.ref l) (upd H l (.lst ys))) := by
  intro Z S H env σ xs vs a d Q o hl l e k
  cases e
  exact ⟨_, _, rfl, .inl (SqL.of hl), fun p hp => fin_L o k hp l⟩
theorem o_sum : CallO G gSum (rSumA G.K) := by
  intro Z S H env σ xs vs a d Q o hl l e k
  simp only [gSum] at e
  cases q1 : asInts xs with
  | none => rw [q1] at e; cases e
  | some ns =>
    rw [q1] at e; cases e
    obtain ⟨f1, _⟩ := asInts_of q1 l; subst f1
    exact .inl ⟨_, ns, rfl, SqL.of hl, fin_of o k (.int _)⟩
theorem o_sorted : CallO G gSorted (rSortV G.K) := by
  intro Z S H env σ xs vs a d Q o hl l e k
  simp only [gSorted] at e
  obtain ⟨ds, e1, e2⟩ := Option.map_eq_some_iff.mp e
  subst e2
  exact srtD_ok e1 l (SqL.of hl) fun p ys hn ry => fin_L o k hn ry
/-! fresh lists -/
def eLstO (fa : M (List D)) : M (List D) := bnd fa fun as => lif (if fits as.length then some as else none)
theorem Tr.back {p : Addr} (t : Tr G Z S H env σ S1 H1 env1 σ1) (hp : H1 p = none) : H p = none := by
  cases e : H p with
  | none => rfl
  | some ob => exact absurd hp (t.ext.there p (by rw [e]; simp))
theorem newF {ds : List D} {vs : List V} {p : Addr} {Q : VK} (t : Tr G Z S H env σ S1 H1 env1 σ) (hp : H1 p = none) (r : RpL G S1 H1 ds vs)
    (q : ∀ S' H', Tr G Z S1 H1 env1 σ S' H' env1 σ → ∀ a vs, H' a = some (.lst vs) → ¬ S' a → ¬ Own env1 σ a → H a = none → RpL G S' H' ds vs → Q (.ref a) H') : Q (.ref p) (upd H1 p (.lst vs)) := by
  have hn : ¬ S1 p := fun z => t.ok.tr p z hp
  have ta := Tr.alloc (ob := .lst vs) t.ok hp False (.inl hn) (fun ps z => by cases z)
  refine q _ _ ta p vs upd_same (fun z => z.elim hn fun z => z.1) (fun z => ?_) (t.back hp) (ta.rpl t.ok r)
  exact (t.ok.notS z).2 hp
theorem bind0E {α β : Type} {r : R α} {g : α → M β} {K : β → Pr → Hp → Env → Prop} (h : Post G Z W (r.bind g) S H env σ K) : Post G Z W r S H env σ fun a S1 H1 env1 => Post G Z W (g a env1) S H env σ K := by
  cases r with
  | ok a e => exact fun S' H' t => h
  | exc x e => exact h
  | stuck => exact h
theorem sf_lst {es : List Expr} {fa : M (List D)} {pos : Pos} (h : PA X es (tOfA G Z W fa)) : PE X (.List es pos) (tOfF G Z W (eLstO fa)) :=
  pe_imp (pe_lst h) fun σ H Q ⟨S, env, o, q⟩ => by
    refine tOfA.go o (Post.bind q) fun ds S1 H1 env1 vs t1 rx q1 => ?_
    obtain ⟨d, e, k⟩ := lif_post q1
    split at e <;> cases e
    rename_i hz
    exact ⟨by rw [rx.length]; exact fits_line hz, fun p hp => newF t1 hp rx fun S' H' t => k S' H' t⟩
/-- a rule that makes a fresh list -/
def eFnF (g : List D → Option (List D)) (fa : M (List D)) : M (List D) := bnd fa fun a => lif (g a)
def CallF (G : Gx) (g : List D → Option (List D)) (r : List V → Hp → VK → Prop) : Prop :=
  ∀ (S : Pr) (H : Hp) (as ds : List D) (xs : List V) (Q : VK), RpL G S H as xs → g as = some ds → (∀ p vs, H p = none → RpL G S H ds vs → Q (.ref p) (upd H p (.lst vs))) → r xs H Q
theorem tCBF_of {g : List D → Option (List D)} {r : List V → Hp → VK → Prop} {fa : M (List D)} {Q : VK} (hr : CallF G g r) (h : tOfF G Z W (eFnF g fa) σ H Q) : tCB r (tOfA G Z W fa) σ H Q := by
  obtain ⟨S, env, o, q⟩ := h
  refine tOfA.go o (Post.bind q) fun da S1 H1 env1 x t1 rx q1 => ?_
  obtain ⟨d, e, k⟩ := lif_post q1
  exact hr S1 H1 da d x Q rx e fun p vs hp r => newF t1 hp r fun S' H' t => k S' H' t
def gListF : List D → Option (List D)
  | [.lst xs] => some xs
  | [.rol xs] => some xs
  | [.tup xs] => some xs
  | _ => none
theorem f_list : CallF G gListF (fun xs H Q => ∃ p ys, xs = [.ref p] ∧ (SqL G.K H p ys ∨ SqT G.K H p ys) ∧ ∀ l, H l = none → Q (.ref l) (upd H l (.lst ys))) := by
  intro S H as ds xs Q ra e k
  unfold gListF at e
  split at e <;> try contradiction
  · cases e; cases ra with | cons r t => cases t; cases r; rename_i s q l; exact ⟨_, _, rfl, .inl (SqL.of q), fun p hp => k p _ hp l⟩
  · cases e; cases ra with | cons r t => cases t; cases r; rename_i s q l; exact ⟨_, _, rfl, .inl q, fun p hp => k p _ hp l⟩
  · cases e; cases ra with | cons r t => cases t; cases r; rename_i s q l; exact ⟨_, _, rfl, .inr q, fun p hp => k p _ hp l⟩
def gSortedF : List D → Option (List D)
  | [.lst xs] => srtD xs
  | [.dct xs] => srtK xs
  | _ => none
theorem f_sorted : CallF G gSortedF (rSortV G.K) := by
  intro S H as ds xs Q ra e k
  unfold gSortedF at e
  split at e <;> try contradiction
  · rename_i ys
    cases ra with | cons r t => cases t; cases r; rename_i s q l; exact srtD_ok e l (SqL.of q) fun p ys hn ry => k p _ hn ry
  · rename_i ys
    cases ra with | cons r t => cases t; cases r; rename_i s q l; exact srtK_ok e l q fun p ys hn ry => k p _ hn ry
end
end PL

namespace PL
open PySem PySem.Spec PyProof.Rows L2

/-! ### enumerate over anything that an iterator begins -/
set_option maxHeartbeats 1000000 in
theorem enumB_new {v : Value} {o : Obj} {Hh : Heap → Prop} (B : Begins v o Hh) :
    Meets (Builtin.«enumerate.__new__» ⟨[.type "enumerate", v], []⟩) (fun _ R s => Hh s.heap ∧
      R (.ok (.ret (.ref (s.heap.push o).objs.size))) { s with heap := (s.heap.push o).push { cls := .type "enumerate", data := .fields #[.none, .bool false, .ref s.heap.objs.size, rawInt 0, .none, .none] } }) := by
  refine .of_wp fun prog w A R s h => ?_
  obtain ⟨hp, g, d, tk, os⟩ := s
  obtain ⟨hb, hr⟩ := h
  have hsubE := sub_enumerate
  have itr : ∀ {A' : Around} {E : Value → Shared → Prop} {Q : Value → Shared → Prop}, Q (.ref hp.objs.size) ⟨hp.push o, g, d, tk, os⟩ → wpAny (model prog w) A' (pyIter v) Q E ⟨hp, g, d, tk, os⟩ := fun z => B.iter prog w _ _ ⟨hp, g, d, tk, os⟩ _ hb z
  wp_walk using itr
  refine wpAny_stack_any fun stk => wpAny_pure ?_
  split
  · rename_i cc _ _ _ _ _
    cases (cc == Value.type "enumerate") <;>
    · wp_walk using itr
      exact ⟨_, rfl, hr⟩
  · wp_walk using itr
    exact ⟨_, rfl, hr⟩
section
variable {prog : Program} {w : World} {A : Around} {E : Value → Shared → Prop} {s : Shared}
theorem enumB_call {v : Value} {o : Obj} {Hh : Heap → Prop} {Q : Value → Shared → Prop} (B : Begins v o Hh) (hb : Hh s.heap)
    (k : ∀ h', IsEnum h' (s.heap.objs.size + 1) s.heap.objs.size 0 .none → h'.get? s.heap.objs.size = some o → (∀ b o', s.heap.get? b = some o' → h'.get? b = some o') → Q (.ref (s.heap.objs.size + 1)) { s with heap := h' }) :
    wpAny (model prog w) A (call (.type "enumerate") [v]) Q E s := by
  refine callType_new F.called_enumerate (by decide) (F.typeCall_enumerate_1 _) (F.newCall_enumerate_1 _) (fun ob => F.args_object_init_2 ob _) F.entry_enumerate_new (enumB_new B) ⟨hb, ?_⟩
  have sz : (s.heap.push o).objs.size = s.heap.objs.size + 1 := Heap.size_push ..
  show _ ∧ _
  rw [sz]
  have en := Heap.get?_push_size (s.heap.push o) (o := { cls := .type "enumerate", data := .fields #[.none, .bool false, .ref s.heap.objs.size, rawInt 0, .none, .none] }) rfl
  rw [sz] at en
  exact ⟨⟨_, en, rfl⟩, k _ en (Heap.get?_push_of_some _ (Heap.get?_push_size _ B.free)) fun b o' x => Heap.get?_push_of_some _ (Heap.get?_push_of_some _ x)⟩
end
def ItET (K : PySem.W.Frag) (a : Addr) : It :=
  ⟨fun i H => ∃ (ys : List V) (y : V), SqT K H a ys ∧ ys[i]? = some y, fun i H v H' => ∃ T y, v = .ref T ∧ H T = none ∧ H' = upd H T (.tup [.int (i : Nat), y]) ∧ ∀ ys, SqT K H a ys → ys[i]? = some y, fun i H => ∃ ys : List V, SqT K H a ys ∧ ys.length = i⟩
theorem turn_ET {P : Program} {w : World} {K : PySem.W.Frag} {elts : List Expr} {kk : Nat} {tpos : Pos} (a e it : Addr) (hai : a ≠ it) :
    Turn P w K (.Tuple elts kk tpos) (ItET K a) [e, it] e (fun i h => (∃ old, IsEnum h e it ((i : Nat) : Int) old) ∧ h.IsTupleIter it a i ∧ e ≠ it ∧ e ≠ a) where
  mem := by simp
  obj := fun i h st b hb => by
    obtain ⟨⟨old, he⟩, ⟨o, ho, hc, hd⟩, _⟩ := st
    have e' : b = e ∨ b = it := by simpa using hb
    rcases e' with rfl | rfl
    · exact ⟨_, he, fun v q => nomatch q⟩
    · exact ⟨o, ho, fun v q => by rw [hd] at q; cases q⟩
  keep := fun i h h' st k => let ⟨⟨old, he⟩, hi, hn⟩ := st; ⟨⟨old, k e (by simp) _ he⟩, hi.at fun o q => k it (by simp) o q, hn⟩
  item := by
    intro X hP hw hK hc i pins s σ H E I hf st hg
    subst hP hw hK
    obtain ⟨⟨old, he⟩, hit, hne, hna⟩ := st
    obtain ⟨ys, y, hq, hy⟩ := hg
    obtain ⟨its, rv, p, hz⟩ := I.tuple hq
    obtain ⟨u, hu, ru⟩ := rv.get hy
    have hel : e < s.heap.objs.size := Heap.lt_size he
    have hil : it < s.heap.objs.size := by obtain ⟨_, q, _⟩ := hit; exact Heap.lt_size q
    have D := Draws.tuple (prog := X.prog) (w := X.w) (A := X.A.in1) (show X.A.handled = none from I.ok.hd hc) it a hai its.toArray
    have hil2 : i < its.length := (List.getElem?_eq_some_iff.mp hu).1
    refine wpAny_pyNext_enum_itemD D he ⟨hit, p⟩ (by simpa using hil2) hne (by simp [hne, hna]) fun x h' tk hP ho hst' hT hsz hk => ?_
    have hu2 : its[i]? = some x := by simpa using hP
    obtain rfl : u = x := Option.some.inj (hu.symm.trans hu2)
    refine ⟨_, rfl, wpAny_letOwnedTupleGo_enum (s := { s with heap := h', toks := tk + 1 }) ho fun h'' he' sb => ?_⟩
    have hT2 : h''.get? s.heap.objs.size = some { cls := .type "tuple", data := .seq #[.int i tk, u] } := (sb.2 _ (Nat.ne_of_gt hel)).trans hT
    have new : ObjOk X.prog X.w (upd H s.heap.objs.size (.tup [.int (i : Nat), y])) h'' s.heap.objs.size (.tup [.int (i : Nat), y]) :=
      ⟨by show 2 ≤ sizeLine; decide, [.int i tk, u], .cons ⟨_, rfl⟩ (.cons ru .nil), ⟨_, hT2, rfl, _, rfl⟩⟩
    have I1 : Inv X pins σ (upd H s.heap.objs.size (.tup [.int (i : Nat), y])) { s with heap := h'', toks := tk + 1 } :=
      I.turnedNew (ch := [e, it]) (fun b ob hb q => (sb.2 b (fun z => hb (by simp [z]))).trans (hk b ob (fun z => hb (by simp [z])) (fun z => hb (by simp [z])) q)) hf (Nat.le_refl _) new
    refine ⟨.ref s.heap.objs.size, _, I1, rfl, ⟨_, y, rfl, I.hok.fresh (Nat.le_refl _), rfl, fun zs hz' => by rw [I.tuple_inj hz' hq]; exact hy⟩, ⟨⟨u, ?_⟩, hst'.1.at fun o q => (sb.2 it (Ne.symm hne)).trans q, hne, hna⟩, fun b hb => ?_⟩
    · have e1 : ((i + 1 : Nat) : Int) = (i : Int) + 1 := by omega
      rw [e1]; exact he'
    · have hb' : b < s.heap.objs.size := by
        have e' : b = e ∨ b = it := by simpa using hb
        rcases e' with rfl | rfl
        · exact hel
        · exact hil
      rw [upd_ne (Nat.ne_of_lt hb')]
      exact (hf b hb).1
  done := by
    intro X hP hw hK hc i pins s σ H E I hf st hg
    subst hP hw hK
    obtain ⟨⟨old, he⟩, hit, hne⟩ := st
    obtain ⟨ys, hq, hx⟩ := hg
    obtain ⟨its, rv, p, hz⟩ := I.tuple hq
    have hl := rv.length
    have D := Draws.tuple (prog := X.prog) (w := X.w) (A := X.A.in1) (show X.A.handled = none from I.ok.hd hc) it a hai its.toArray
    obtain ⟨f0, f1, f2, f3, f4, f5⟩ := hf it (by simp)
    have en : i = its.toArray.size := by simp; omega
    subst en
    exact wpAny_pyNext_enum_endD D he ⟨hit, p⟩ fun h' eb => ⟨rfl, I.turned (t' := s.toks) (fun b o hb q => eb b o hb q) f0 f1 f3 f4 f5⟩
  self := fun A i s Q E st h => let ⟨⟨_, he⟩, _⟩ := st; wpAny_pyIter_enum he h
def iEnumA (K : PySem.W.Frag) (ta : TA) : TI := fun σ H R => ta σ H fun vs H1 => ∃ a xs, vs = [.ref a] ∧ ((SqL K H1 a xs ∧ R (Ite K a) H1) ∨ (SqT K H1 a xs ∧ R (ItET K a) H1))
theorem pi_enumA {X : Cx} {e : Expr} {ta : TA} {p pos tpos : Pos} {elts : List Expr} {kk : Nat} (hg : Gl X "enumerate") (hm : X.mg "enumerate" = none) (ha : PA X [e] ta) (hs : starEach [e] X.env = [(false, eval e X.env)]) :
    PI X (.Tuple elts kk tpos) (.Call (.Name "enumerate" p) [e] [] pos) (iEnumA X.K ta) := by
  refine ⟨fun pins s σ H R I h => ?_⟩
  refine Call_ (ld_blt I hg hm boot_enumerate (PyProof.Rows.callWith_type1 (thn (ha.run pos pins s σ H _ I h) fun us s1 ⟨vs, H1, I1, r1, q1⟩ => ?_) hs rfl))
  obtain ⟨a, xs, ex, q⟩ := q1
  subst ex
  cases r1 with
  | cons r rr =>
    cases rr
    cases r
    have fresh : ∀ b ∈ [s1.heap.objs.size + 1, s1.heap.objs.size], s1.heap.objs.size ≤ b := fun b hb => by
      have e' : b = s1.heap.objs.size + 1 ∨ b = s1.heap.objs.size := by simpa using hb
      omega
    rcases q with ⟨hq, q⟩ | ⟨hq, q⟩
    · obtain ⟨its, rv, p', hz⟩ := I1.list hq
      refine call_enumerate_list p'.isList fun h' he hit hsz hk => wpAny_pyIter_enum he ?_
      have I2 : Inv X pins σ H1 { s1 with heap := h' } := I1.kept (t' := s1.toks) hk
      exact ⟨s1.heap.objs.size + 1, [s1.heap.objs.size + 1, s1.heap.objs.size], _, _, H1, rfl, I2, turn_enum a (s1.heap.objs.size + 1) s1.heap.objs.size, ⟨⟨.none, he⟩, hit, Nat.succ_ne_self _⟩, fun b hb => I1.fpOk (fresh b hb) (I1.hok.fresh (fresh b hb)), q⟩
    · obtain ⟨its, rv, p', hz⟩ := I1.tuple hq
      have lt : a < s1.heap.objs.size := by obtain ⟨_, y, _⟩ := p'; exact Heap.lt_size y
      refine enumB_call (begins_tuple a its.toArray) p' fun h' he ho hk => wpAny_pyIter_enum he ?_
      have I2 : Inv X pins σ H1 { s1 with heap := h' } := I1.kept (t' := s1.toks) hk
      exact ⟨s1.heap.objs.size + 1, [s1.heap.objs.size + 1, s1.heap.objs.size], _, _, H1, rfl, I2, turn_ET a (s1.heap.objs.size + 1) s1.heap.objs.size (Nat.ne_of_lt lt), ⟨⟨.none, he⟩, ⟨_, ho, rfl, rfl⟩, Nat.succ_ne_self _, Nat.ne_of_gt (Nat.lt_succ_of_lt lt)⟩, fun b hb => I1.fpOk (fresh b hb) (I1.hok.fresh (fresh b hb)), q⟩
end PL

namespace PL
open PySem PySem.Spec PyProof.Rows L2

/-! ### zip of a list and a tuple, either way round -/
def SqB (K : PySem.W.Frag) (H : Hp) : Bool → Addr → List V → Prop
  | true, a, xs => SqL K H a xs
  | false, a, xs => SqT K H a xs
def ItrB (h : Heap) : Bool → Addr → Addr → Nat → Prop
  | true, it, l, i => h.IsListIter it l i
  | false, it, l, i => h.IsTupleIter it l i
def HasB (h : Heap) : Bool → Addr → Array Value → Prop
  | true, l, xs => h.IsList l xs
  | false, l, xs => h.IsTuple l xs
def itoB : Bool → Addr → Obj
  | true, l => { cls := .type "list_iterator", data := .fields #[.ref l, .int 0 0] }
  | false, l => { cls := .type "tuple_iterator", data := .fields #[.ref l, .int 0 0] }
theorem dr_B {prog : Program} {w : World} {A : Around} (hh : A.handled = none) : ∀ (b : Bool) (it l : Addr) (hne : l ≠ it) (items : Array Value),
    Draws prog w A it [it, l] items.size (fun i v => items[i]? = some v) (fun i h => ItrB h b it l i ∧ HasB h b l items)
  | true, it, l, hne, items => Draws.list hh it l hne items
  | false, it, l, hne, items => Draws.tuple hh it l hne items
theorem bg_B : ∀ (b : Bool) (l : Addr) (items : Array Value), Begins (.ref l) (itoB b l) fun h => HasB h b l items
  | true, l, items => begins_list l items
  | false, l, items => begins_tuple l items
theorem itr_at {h h' : Heap} {it l : Addr} {i : Nat} : ∀ {b : Bool}, ItrB h b it l i → (∀ o, h.get? it = some o → h'.get? it = some o) → ItrB h' b it l i
  | true, q, k => Heap.IsListIter.at q k
  | false, q, k => Heap.IsTupleIter.at q k
theorem itr_new {h : Heap} {it l : Addr} : ∀ {b : Bool}, h.get? it = some (itoB b l) → ItrB h b it l 0
  | true, e => ⟨_, e, rfl, rfl⟩
  | false, e => ⟨_, e, rfl, rfl⟩
theorem itr_obj {h : Heap} {it l : Addr} {i : Nat} : ∀ {b : Bool}, ItrB h b it l i → ∃ o, h.get? it = some o ∧ ∀ v, o.data ≠ .cell v
  | true, ⟨o, e, _, d⟩ => ⟨o, e, fun v q => by rw [d] at q; cases q⟩
  | false, ⟨o, e, _, d⟩ => ⟨o, e, fun v q => by rw [d] at q; cases q⟩
theorem sqB_inv {X : Cx} {pins : List (Addr × Obj)} {σ : L2.St} {H : Hp} {s : Shared} (I : Inv X pins σ H s) {a : Addr} {xs : List V} : ∀ {b : Bool}, SqB X.K H b a xs → ∃ its : List Value, Vals xs its ∧ HasB s.heap b a its.toArray ∧ a < s.heap.objs.size
  | true, q => by
    obtain ⟨its, rv, p, _⟩ := I.list q
    exact ⟨its, rv, p.isList, p.lt⟩
  | false, q => by
    obtain ⟨its, rv, p, _⟩ := I.tuple q
    obtain ⟨o, e, y⟩ := id p
    exact ⟨its, rv, p, Heap.lt_size e⟩
theorem sqB_inj {X : Cx} {pins : List (Addr × Obj)} {σ : L2.St} {H : Hp} {s : Shared} (I : Inv X pins σ H s) {a : Addr} {xs ys : List V} : ∀ {b : Bool}, SqB X.K H b a xs → SqB X.K H b a ys → xs = ys
  | true, q, q2 => I.list_inj q q2
  | false, q, q2 => I.tuple_inj q q2
/-- the sequences at a and b as they stand at each turn, the items in new pairs -/
def ItzB (K : PySem.W.Frag) (b1 b2 : Bool) (a b : Addr) : It :=
  ⟨fun i H => ∃ (xs ys : List V) (x y : V), SqB K H b1 a xs ∧ SqB K H b2 b ys ∧ xs[i]? = some x ∧ ys[i]? = some y,
    fun i H v H' => ∃ T x y, v = .ref T ∧ H T = none ∧ H' = upd H T (.tup [x, y]) ∧ (∀ xs, SqB K H b1 a xs → xs[i]? = some x) ∧ ∀ ys, SqB K H b2 b ys → ys[i]? = some y,
    fun i H => ∃ xs ys : List V, SqB K H b1 a xs ∧ SqB K H b2 b ys ∧ i = min xs.length ys.length⟩
theorem turn_zipB {P : Program} {w : World} {K : PySem.W.Frag} {elts : List Expr} {kk : Nat} {tpos : Pos} {b1 b2 : Bool} {a b z TI TO i1 i2 : Addr} (D : ZipSep2 z TI TO i1 i2 [i1, a] [i2, b]) (hai : a ≠ i1) (hbi : b ≠ i2) :
    Turn P w K (.Tuple elts kk tpos) (ItzB K b1 b2 a b) [z, TI, TO, i1, i2] z (fun i h => IsZip h z TI TO .none ∧ IsTupOf2 h TI (.ref i1) (.ref i2) ∧ (∃ x y, IsTupOf2 h TO x y) ∧ ItrB h b1 i1 a i ∧ ItrB h b2 i2 b i) where
  mem := by simp
  obj := fun i h st c hc => by
    obtain ⟨hz, hTI, ⟨x, y, hTO⟩, h1, h2⟩ := st
    have e' : c = z ∨ c = TI ∨ c = TO ∨ c = i1 ∨ c = i2 := by simpa using hc
    rcases e' with q | q | q | q | q
    · rw [q]; exact ⟨_, hz, fun v q => nomatch q⟩
    · rw [q]; exact ⟨_, hTI, fun v q => nomatch q⟩
    · rw [q]; exact ⟨_, hTO, fun v q => nomatch q⟩
    · rw [q]; exact itr_obj h1
    · rw [q]; exact itr_obj h2
  keep := fun i h h' st k => by
    obtain ⟨hz, hTI, ⟨x, y, hTO⟩, h1, h2⟩ := st
    exact ⟨k z (by simp) _ hz, k TI (by simp) _ hTI, ⟨x, y, k TO (by simp) _ hTO⟩, itr_at h1 fun o q => k i1 (by simp) o q, itr_at h2 fun o q => k i2 (by simp) o q⟩
  item := by
    intro X hP hw hK hc i pins s σ H E I hf st hg
    subst hP hw hK
    obtain ⟨hz, hTI, ⟨x0, y0, hTO⟩, h1, h2⟩ := st
    obtain ⟨xs, ys, x, y, hqx, hqy, hx, hy⟩ := hg
    obtain ⟨its, rv, p, _⟩ := sqB_inv I hqx
    obtain ⟨its2, rv2, p2, _⟩ := sqB_inv I hqy
    obtain ⟨u, hu, ru⟩ := rv.get hx
    obtain ⟨u2, hu2, ru2⟩ := rv2.get hy
    have hl1 : i < its.length := (List.getElem?_eq_some_iff.mp hu).1
    have hl2 : i < its2.length := (List.getElem?_eq_some_iff.mp hu2).1
    have hzl : z < s.heap.objs.size := Heap.lt_size hz
    have D1 := dr_B (prog := X.prog) (w := X.w) (A := X.A.in1) (show X.A.handled = none from I.ok.hd hc) b1 i1 a hai its.toArray
    have D2 := dr_B (prog := X.prog) (w := X.w) (A := X.A.in1) (show X.A.handled = none from I.ok.hd hc) b2 i2 b hbi its2.toArray
    refine wpAny_pyNext_zipD2_item D D1 D2 hz hTI hTO ⟨h1, p⟩ ⟨h2, p2⟩ (by simpa using hl1) (by simpa using hl2) fun v1 v2 h' tk g1 g2 z' TO' s1' s2' hT hsz hk => ?_
    obtain rfl : u = v1 := Option.some.inj (hu.symm.trans (by simpa using g1))
    obtain rfl : u2 = v2 := Option.some.inj (hu2.symm.trans (by simpa using g2))
    refine ⟨_, rfl, wpAny_letOwnedTupleGo_zip (s := { s with heap := h', toks := tk }) z' fun h'' z'' sb => ?_⟩
    have hT2 : h''.get? s.heap.objs.size = some { cls := .type "tuple", data := .seq #[u, u2] } := (sb.2 _ (Nat.ne_of_gt hzl)).trans hT
    have new : ObjOk X.prog X.w (upd H s.heap.objs.size (.tup [x, y])) h'' s.heap.objs.size (.tup [x, y]) :=
      ⟨by show 2 ≤ sizeLine; decide, [u, u2], .cons ru (.cons ru2 .nil), ⟨_, hT2, rfl, _, rfl⟩⟩
    have I1 : Inv X pins σ (upd H s.heap.objs.size (.tup [x, y])) { s with heap := h'', toks := tk } :=
      I.turnedNew (t' := tk) (ch := [z, TI, TO, i1, i2]) (fun c o hb q => (sb.2 c (fun q' => hb (by simp [q']))).trans (hk c o (fun q' => hb (by simp [q'])) (fun q' => hb (by simp [q'])) (fun q' => hb (by simp [q'])) (fun q' => hb (by simp [q'])) q)) hf (Nat.le_refl _) new
    have nz : ∀ c, c ≠ z → ∀ o, h'.get? c = some o → h''.get? c = some o := fun c n o q => (sb.2 _ n).trans q
    refine ⟨.ref s.heap.objs.size, _, I1, rfl, ⟨_, x, y, rfl, I.hok.fresh (Nat.le_refl _), rfl, fun l hl => by rw [sqB_inj I hl hqx]; exact hx, fun l hl => by rw [sqB_inj I hl hqy]; exact hy⟩, ⟨z'', ?_, ⟨u, u2, nz _ D.TOz _ TO'⟩, itr_at s1'.1 fun o q => nz _ (Ne.symm D.zi1) o q, itr_at s2'.1 fun o q => nz _ (Ne.symm D.zi2) o q⟩, fun c hcm => ?_⟩
    · exact nz _ D.TIz _ (hk _ _ D.TIz D.TITO D.TIi1 D.TIi2 hTI)
    · have hlt : c < s.heap.objs.size := by
        have e' : c = z ∨ c = TI ∨ c = TO ∨ c = i1 ∨ c = i2 := by simpa using hcm
        rcases e' with q | q | q | q | q
        · rw [q]; exact hzl
        · rw [q]; exact Heap.lt_size hTI
        · rw [q]; exact Heap.lt_size hTO
        · rw [q]; obtain ⟨_, e1, _⟩ := itr_obj h1; exact Heap.lt_size e1
        · rw [q]; obtain ⟨_, e2, _⟩ := itr_obj h2; exact Heap.lt_size e2
      rw [upd_ne (Nat.ne_of_lt hlt)]
      exact (hf c hcm).1
  done := by
    intro X hP hw hK hc i pins s σ H E I hf st hg
    subst hP hw hK
    obtain ⟨hz, hTI, ⟨x0, y0, hTO⟩, h1, h2⟩ := st
    obtain ⟨xs, ys, hqx, hqy, hend⟩ := hg
    obtain ⟨its, rv, p, _⟩ := sqB_inv I hqx
    obtain ⟨its2, rv2, p2, _⟩ := sqB_inv I hqy
    have l1 := rv.length
    have l2 := rv2.length
    have D1 := dr_B (prog := X.prog) (w := X.w) (A := X.A.in1) (show X.A.handled = none from I.ok.hd hc) b1 i1 a hai its.toArray
    have D2 := dr_B (prog := X.prog) (w := X.w) (A := X.A.in1) (show X.A.handled = none from I.ok.hd hc) b2 i2 b hbi its2.toArray
    exact wpAny_pyNext_zipD2_end D D1 D2 hz hTI hTO ⟨h1, p⟩ ⟨h2, p2⟩ (by simp; omega) (by simp; omega) (by simp; omega) fun h' tk hk => ⟨rfl, I.turnedL (t' := tk) (ch := [z, TI, TO, i1, i2]) (fun c o hb q =>
      hk c o (fun q' => hb (by simp [q'])) (fun q' => hb (by simp [q'])) (fun q' => hb (by simp [q'])) (fun q' => hb (by simp [q'])) q) hf⟩
  self := fun A i s Q E st h => wpAny_pyIter_zip st.1 h
def iZipB (K : PySem.W.Frag) (ta : TA) : TI := fun σ H R => ta σ H fun vs H1 => ∃ b1 b2 a b xs ys, vs = [.ref a, .ref b] ∧ SqB K H1 b1 a xs ∧ SqB K H1 b2 b ys ∧ R (ItzB K b1 b2 a b) H1
theorem pi_zipB {X : Cx} {e e2 : Expr} {ta : TA} {p pos tpos : Pos} {elts : List Expr} {kk : Nat} (hg : Gl X "zip") (hm : X.mg "zip" = none) (ha : PA X [e, e2] ta)
    (hs : starEach [e, e2] X.env = (false, eval e X.env) :: starEach [e2] X.env) (hpl : (backTo pos (starEach [e2] X.env)).any (·.1) = false) :
    PI X (.Tuple elts kk tpos) (.Call (.Name "zip" p) [e, e2] [] pos) (iZipB X.K ta) := by
  refine ⟨fun pins s σ H R I h => ?_⟩
  refine Call_ (ld_blt I hg hm PyProof.Rows.boot_zip (PyProof.Rows.callWith_type1 (thn (ha.run pos pins s σ H _ I h) fun us s1 ⟨vs, H1, I1, r1, q1⟩ => ?_) hs hpl))
  obtain ⟨b1, b2, a, b, xs, ys, ex, hqx, hqy, q⟩ := q1
  subst ex
  cases r1 with
  | cons r rr =>
    cases rr with
    | cons r' rr =>
      cases rr
      cases r
      cases r'
      have fresh5 : ∀ c, c ∈ [s1.heap.objs.size + 4, s1.heap.objs.size + 2, s1.heap.objs.size + 3, s1.heap.objs.size, s1.heap.objs.size + 1] → FpOk X pins H1 c := fun c hcm => by
        have e' : c = s1.heap.objs.size + 4 ∨ c = s1.heap.objs.size + 2 ∨ c = s1.heap.objs.size + 3 ∨ c = s1.heap.objs.size ∨ c = s1.heap.objs.size + 1 := by simpa using hcm
        have hle : s1.heap.objs.size ≤ c := by
          rcases e' with z | z | z | z | z
          · rw [z]; exact Nat.le_add_right _ _
          · rw [z]; exact Nat.le_add_right _ _
          · rw [z]; exact Nat.le_add_right _ _
          · rw [z]; exact Nat.le_refl _
          · rw [z]; exact Nat.le_add_right _ _
        exact I1.fpOk hle (I1.hok.fresh hle)
      obtain ⟨its, rv, p1, lt1⟩ := sqB_inv I1 hqx
      obtain ⟨its2, rv2, p2, lt2⟩ := sqB_inv I1 hqy
      refine zip_begins2 (bg_B b1 a its.toArray) (bg_B b2 b its2.toArray) p1 p2 fun h' hz hTI hTO h1 h2 hsz hk => wpAny_pyIter_zip hz ?_
      have I2 : Inv X pins σ H1 { s1 with heap := h' } := I1.kept (t' := s1.toks) hk
      have one : ∀ {l : Addr}, l < s1.heap.objs.size → ∀ c ∈ [l], c < s1.heap.objs.size := fun hl c hc => by
        rw [List.mem_singleton.mp hc]; exact hl
      exact ⟨s1.heap.objs.size + 4, [s1.heap.objs.size + 4, s1.heap.objs.size + 2, s1.heap.objs.size + 3, s1.heap.objs.size, s1.heap.objs.size + 1], _, _, H1, rfl, I2,
        turn_zipB (zip_sep2 (one lt1) (one lt2)) (Nat.ne_of_lt lt1) (Nat.ne_of_lt (Nat.lt_succ_of_lt lt2)), ⟨hz, hTI, ⟨_, _, hTO⟩, itr_new h1, itr_new h2⟩, fresh5, q⟩
end PL

namespace PL
open PySem PySem.Spec PyProof.Rows L2

/-! ### x.index(v), x.count(v), x.remove(v) over data of any depth -/
section
variable {X : Cx}
/-- a list's items, read as data, beside a value -/
theorem lst_eqs {pins : List (Addr × Obj)} {σ : L2.St} {H : Hp} {s : Shared} {its : List Value} {vs : List V} {ds : List PyData} {d : PyData} {y : V} {uy : Value} (I : Inv X pins σ H s) (rv : Vals vs its) (ha : DpAll X.K H vs ds) (hy : Dp X.K H y d) (ry : RelV y uy)
    (sl : SeqAt.shaped (.list ds) = true) (sd : SeqAt.shaped d = true) (hu : X.A.units + 65 < cLine) : its.map (SeqAt.readOf s.heap) = ds ∧ ∀ z, z ∈ its.toArray → SeqAt.EqAt X.A.in1 s z uy (PyData.eqv (SeqAt.readOf s.heap z) d) := by
  obtain ⟨bs, r1⟩ := Dp.reads I d y uy hy ry
  have hxs : PyData.canLayAll0 ds = true := SeqAt.canLay_of_shaped sl
  obtain ⟨as, h4⟩ := Dp.readsAll I ds _ its ha rv
  exact ⟨SeqAt.readsAll_map ds its as hxs h4, SeqAt.items_eqAt (vs := its.toArray) (show ReadsAll s.heap its.toArray.toList ds as from h4) r1 hxs (SeqAt.canLay_of_shaped sd) (room_in_shaped sd hu)⟩
def rCntD (K : PySem.W.Frag) : V → List V → Hp → VK → Prop := fun x xs H Q => ∃ (a : Addr) (vs : List V) (y : V) (d : PyData) (ds : List PyData), x = V.ref a ∧ xs = [y] ∧ SqL K H a vs ∧ DpAll K H vs ds ∧ Dp K H y d ∧ SeqAt.shaped (.list ds) = true ∧ SeqAt.shaped d = true ∧ Q (.int (ds.countP fun z => PyData.eqv z d : Nat)) H
theorem mt_countD (hu : X.A.units + 65 < cLine) : MtR X "list.count" (rCntD X.K) := by
  intro pins s σ H x xs v us Q I rx rxs h
  obtain ⟨a, vs, y, d, ds, rfl, rfl, hs, ha, hy, sl, sd, q⟩ := h
  cases rx
  obtain ⟨uy, rfl, ry⟩ := rxs.one
  obtain ⟨its, rv, ⟨⟨cls, dd, data, sls⟩, n, ho, hc, hdn, hdt⟩, hlen⟩ := I.list hs
  simp only at hc hdt
  subst hc hdt
  obtain ⟨hm, he⟩ := lst_eqs I rv ha hy ry sl sd hu
  refine call_meets PySem.F.slot_list_count ⟨_, ho, rfl⟩ PySem.F.entry_list_count (PySem.F.args_list_count_2 _ _)
    (SeqAt.list_countAt a its.toArray n dd sls uy (fun u => PyData.eqv (SeqAt.readOf s.heap u) d)) ⟨ho, he, ?_⟩
  refine ⟨.int _, H, I.kept (t' := s.toks + 1) (fun b o q => q), ⟨_, rfl⟩, ?_⟩
  have e : its.toArray.toList.countP (fun u => PyData.eqv (SeqAt.readOf s.heap u) d) = ds.countP fun z => PyData.eqv z d := by
    rw [← hm, List.countP_map] <;> rfl
  rw [e]; exact q
def rRemD (K : PySem.W.Frag) : V → List V → Hp → VK → Prop := fun x xs H Q => ∃ (a : Addr) (vs : List V) (y : V) (d : PyData) (ds : List PyData) (j : Nat) (z : PyData), x = V.ref a ∧ xs = [y] ∧ H a = some (.lst vs) ∧ DpAll K H vs ds ∧ Dp K H y d ∧ SeqAt.shaped (.list ds) = true ∧ SeqAt.shaped d = true ∧
  ds[j]? = some z ∧ PyData.eqv z d = true ∧ (∀ (m : Nat) (z' : PyData), m < j → ds[m]? = some z' → PyData.eqv z' d = false) ∧ Q .non (upd H a (.lst (vs.eraseIdx j)))
theorem mt_removeD (hu : X.A.units + 65 < cLine) : MtM X "list.remove" (rRemD X.K) := by
  intro pins s σ H x xs v us Q I rx rxs h
  obtain ⟨a, vs, y, d, ds, j, z, rfl, rfl, hH, ha, hy, sl, sd, hz, hzj, hno, q⟩ := h
  cases rx
  obtain ⟨uy, rfl, ry⟩ := rxs.one
  obtain ⟨zl, its, n, r, hl, e⟩ := I.lstM hH
  obtain ⟨hm, he⟩ := lst_eqs I r ha hy ry sl sd hu
  have hn : its.length = ds.length := by rw [← hm, List.length_map]
  obtain ⟨hjd, _⟩ := List.getElem?_eq_some_iff.mp hz
  have hjl : j < its.toArray.size := by rw [List.size_toArray]; omega
  have at_ : ∀ (m : Nat) (hm1 : m < its.toArray.size) (z' : PyData), ds[m]? = some z' → SeqAt.readOf s.heap its.toArray[m] = z' := by
    intro m hm1 z' hz'
    have hml : m < its.length := by simpa using hm1
    rw [← hm, List.getElem?_map, List.getElem?_eq_getElem hml] at hz'
    have e1 : SeqAt.readOf s.heap its[m] = z' := Option.some.inj (show some (SeqAt.readOf s.heap its[m]) = some z' from hz')
    simpa using e1
  refine call_meets PySem.F.slot_list_remove ⟨_, e, rfl⟩ PySem.F.entry_list_remove (PySem.F.args_list_remove_2 _ _)
    (SeqAt.list_removeAt a its.toArray n none #[] uy (fun u => PyData.eqv (SeqAt.readOf s.heap u) d) j hjl ?_ ?_ (by rw [List.size_toArray]; omega)) ⟨e, he, ?_⟩
  · show PyData.eqv (SeqAt.readOf s.heap its.toArray[j]) d = true
    rw [at_ j hjl z hz]; exact hzj
  · intro m hm1 hmj
    have hmd : m < ds.length := by omega
    have hz' : ds[m]? = some ds[m] := List.getElem?_eq_getElem hmd
    show PyData.eqv (SeqAt.readOf s.heap its.toArray[m]) d = false
    rw [at_ m hm1 _ hz']
    exact hno m _ hmj hz'
  · refine ⟨.non, _, I.lset (its' := its.eraseIdx j) (t' := s.toks) hH e ?_ (r.eraseIdx j) ?_, rfl, q⟩
    · show its.toArray.eraseIdxIfInBounds j = (its.eraseIdx j).toArray
      rw [List.eraseIdxIfInBounds_toArray]
    · have z2 : (vs.eraseIdx j).length ≤ vs.length := List.length_eraseIdx_le ..
      omega
end
def firstEq (ds : List PyData) (d : PyData) : Option Nat := ds.findIdx? fun z => PyData.eqv z d
theorem firstEq_at {ds : List PyData} {d : PyData} {j : Nat} (h : firstEq ds d = some j) : ∃ z, ds[j]? = some z ∧ PyData.eqv z d = true ∧ ∀ (m : Nat) (z' : PyData), m < j → ds[m]? = some z' → PyData.eqv z' d = false := by
  unfold firstEq at h
  rw [List.findIdx?_eq_some_iff_getElem] at h
  obtain ⟨hj, h1, h2⟩ := h
  refine ⟨ds[j], List.getElem?_eq_getElem hj, h1, fun m z' hm hz => ?_⟩
  have hml : m < ds.length := by omega
  rw [List.getElem?_eq_getElem hml] at hz
  cases hz
  simpa using h2 m hm
def gIdx (xs : List D) (d : D) : Option D := if xs.all (shp 63) && shp 64 d then (firstEq (toPyL xs) (toPy d)).map fun j => .int (j : Nat) else none
def gCnt (xs : List D) (d : D) : Option D := if xs.all (shp 63) && shp 64 d then some (.int ((toPyL xs).countP fun z => PyData.eqv z (toPy d) : Nat)) else none
def gRem (xs : List D) (d : D) : Option (List D) := if xs.all (shp 63) && shp 64 d then (firstEq (toPyL xs) (toPy d)).map fun j => xs.eraseIdx j else none
/-- the list at a slot, own or known -/
def lstAt (j : Nat) : M (List D) := fun env => match env[j]? with
  | some (.own _ xs) => .ok xs env
  | some (.val (.lst xs)) => .ok xs env
  | some (.val (.rol xs)) => .ok xs env
  | _ => .stuck
def eMeth (g : List D → D → Option D) (j : Nat) (fe : M D) : M D := bnd (lstAt j) fun _ => bnd fe fun d => bnd (lstAt j) fun xs => lif (g xs d)
section
variable {G : Gx} {Z : Zx} {W : WX} {S S1 S' : Pr} {H H1 H' : Hp} {env env1 env' : Env} {σ : L2.St} {X : Cx}
theorem lstAt_post {α : Type} {j : Nat} {g : List D → M α} {K : α → Pr → Hp → Env → Prop} (o : Ok G Z S H env σ) (q : Post G Z W (bnd (lstAt j) g env) S H env σ K) : ∃ a vs xs, σ[j]? = some (some (.ref a)) ∧ SqL G.K H a vs ∧ RpL G S H xs vs ∧ Post G Z W (g xs env) S H env σ K := by
  unfold bnd lstAt at q
  split at q
  · rename_i io xs e1
    obtain ⟨a, vs, h1, h2, _, h4⟩ := o.own j _ _ e1
    exact ⟨a, vs, _, h1, SqL.of h2, h4, q⟩
  · rename_i xs e1
    obtain ⟨v, h1, h2⟩ := o.val j _ e1
    cases h2 with | lst s p l => exact ⟨_, _, _, h1, SqL.of p, l, q⟩
  · rename_i xs e1
    obtain ⟨v, h1, h2⟩ := o.val j _ e1
    cases h2 with | rol s p l => exact ⟨_, _, _, h1, p, l, q⟩
  · exact q.elim
theorem shaped_l {xs : List D} (h : xs.all (shp 63) = true) : SeqAt.shaped (.list (toPyL xs)) = true := shaped_of (d := .lst xs) h
theorem dp_l {xs : List D} {vs : List V} (h : xs.all (shp 63) = true) (r : RpL G S H xs vs) : DpAll G.K H vs (toPyL xs) := RpL.dp (fun d hd => List.all_eq_true.mp h d hd) r
theorem se_index {j : Nat} {x : Str} {e : Expr} {fe : M D} {p1 apos cpos : Pos} (hK : X.K = G.K) (hu : X.A.units + 65 < cLine) (ho : PE X (.Name x p1) (tVar j)) (he : PE X e (tOf G Z W fe)) (hst : starEach (e :: []) X.env = (false, eval e X.env) :: starEach [] X.env) (hline : (apos.endLine == cpos.line) = true) :
    PE X (.Call (.Attribute (.Name x p1) "index" apos) [e] [] cpos) (tOf G Z W (eMeth gIdx j fe)) :=
  pe_imp (pe_bm PySem.F.plainAttrs_list PySem.F.slot_list_index PySem.F.type_list_index (mt_indexD hu) ho (pa_cons he pa_nil hst) rfl (by rw [hst]; rfl) hline hst rfl) fun σ H Q ⟨S, env, o, q⟩ => by
    unfold eMeth at q
    obtain ⟨a, vs, xs, c1, c2, c3, q0⟩ := lstAt_post o q
    refine ⟨_, c1, .inl ⟨rfl, _, by rw [hK]; exact c2⟩, ?_⟩
    refine tOf.go o (Post.bind q0) fun d S1 H1 env1 v t1 rx q1 => ?_
    obtain ⟨a', ws, ys, d1, d2, d3, q2⟩ := lstAt_post t1.ok q1
    rw [c1] at d1; cases d1
    obtain ⟨r, e, k⟩ := lif_post q2
    unfold gIdx at e
    split at e <;> try contradiction
    rename_i hc
    simp only [Bool.and_eq_true] at hc
    obtain ⟨i, e1, e2⟩ := Option.map_eq_some_iff.mp e
    subst e2
    obtain ⟨z, f1, f2, f3⟩ := firstEq_at e1
    refine ⟨a, v, toPy d, toPyL ys, i, z, rfl, rfl, ?_, ?_, shaped_l hc.1, shaped_of hc.2, f1, f2, f3, k _ _ (Tr.refl t1.ok) _ (.int _)⟩
    · rw [hK]; exact .lst d2 (dp_l hc.1 d3)
    · rw [hK]; exact Rp.dp hc.2 rx
theorem se_count {j : Nat} {x : Str} {e : Expr} {fe : M D} {p1 apos cpos : Pos} (hK : X.K = G.K) (hu : X.A.units + 65 < cLine) (ho : PE X (.Name x p1) (tVar j)) (he : PE X e (tOf G Z W fe)) (hst : starEach (e :: []) X.env = (false, eval e X.env) :: starEach [] X.env) (hline : (apos.endLine == cpos.line) = true) :
    PE X (.Call (.Attribute (.Name x p1) "count" apos) [e] [] cpos) (tOf G Z W (eMeth gCnt j fe)) :=
  pe_imp (pe_bm PySem.F.plainAttrs_list PySem.F.slot_list_count PySem.F.type_list_count (mt_countD hu) ho (pa_cons he pa_nil hst) rfl (by rw [hst]; rfl) hline hst rfl) fun σ H Q ⟨S, env, o, q⟩ => by
    unfold eMeth at q
    obtain ⟨a, vs, xs, c1, c2, c3, q0⟩ := lstAt_post o q
    refine ⟨_, c1, .inl ⟨rfl, _, by rw [hK]; exact c2⟩, ?_⟩
    refine tOf.go o (Post.bind q0) fun d S1 H1 env1 v t1 rx q1 => ?_
    obtain ⟨a', ws, ys, d1, d2, d3, q2⟩ := lstAt_post t1.ok q1
    rw [c1] at d1; cases d1
    obtain ⟨r, e, k⟩ := lif_post q2
    unfold gCnt at e
    split at e <;> try contradiction
    rename_i hc
    simp only [Bool.and_eq_true] at hc
    cases e
    exact ⟨a, ws, v, toPy d, toPyL ys, rfl, rfl, by rw [hK]; exact d2, by rw [hK]; exact dp_l hc.1 d3, by rw [hK]; exact Rp.dp hc.2 rx, shaped_l hc.1, shaped_of hc.2, k _ _ (Tr.refl t1.ok) _ (.int _)⟩
theorem RpL.erase {xs : List D} {vs : List V} (r : RpL G S H xs vs) (j : Nat) : RpL G S H (xs.eraseIdx j) (vs.eraseIdx j) := RpL.eraseIdx j r
/-- x.remove(e) -/
def remO (j : Nat) (d : D) : M O := fun env => match env[j]? with
  | some (.own io xs) => (match gRem xs d with
    | some ys => .ok .next (env.set j (.own io ys))
    | none => .stuck)
  | _ => .stuck
def sRem (j : Nat) (fe : M D) : M O := bnd (chk j) fun _ => bnd fe (remO j)
theorem ss_rem {j : Nat} {x : Str} {e : Expr} {fe : M D} {p1 apos cpos pos : Pos} (hK : X.K = G.K) (hu : X.A.units + 65 < cLine) (ho : PE X (.Name x p1) (tVar j)) (he : PE X e (tOf G Z W fe)) (hst : starEach (e :: []) X.env = (false, eval e X.env) :: starEach [] X.env) (hline : (apos.endLine == cpos.line) = true) :
    PS X (.Expr (.Call (.Attribute (.Name x p1) "remove" apos) [e] [] cpos) pos) (tOfS G Z W (sRem j fe)) :=
  ps_imp (ps_expr (pe_bm PySem.F.plainAttrs_list PySem.F.slot_list_remove PySem.F.type_list_remove (mt_removeD hu) ho (pa_cons he pa_nil hst) rfl (by rw [hst]; rfl) hline hst rfl) rfl) fun D σ H ⟨S, env, o, q⟩ => by
    obtain ⟨a, vs, c1, c2, q0⟩ := chk_post o q
    refine ⟨_, c1, .inl ⟨rfl, _, SqL.of c2⟩, ?_⟩
    refine tOf.go o q0.bindE fun d S1 H1 env1 v t1 rx q1 => ?_
    unfold remO at q1
    split at q1
    · rename_i io xs e1
      split at q1
      · rename_i ys hg
        obtain ⟨a', ws, f1, f2, f3, f4⟩ := t1.ok.own j io xs e1
        rw [c1] at f1; cases f1
        unfold gRem at hg
        split at hg <;> try contradiction
        rename_i hc
        simp only [Bool.and_eq_true] at hc
        obtain ⟨i, g1, g2⟩ := Option.map_eq_some_iff.mp hg
        subst g2
        obtain ⟨z, g3, g4, g5⟩ := firstEq_at g1
        have t := Tr.chg t1.ok e1 c1 (f4.erase i)
        exact ⟨a, ws, v, toPy d, toPyL xs, i, z, rfl, rfl, f2, by rw [hK]; exact dp_l hc.1 f4, by rw [hK]; exact Rp.dp hc.2 rx, shaped_l hc.1, shaped_of hc.2, g3, g4, g5, q1 _ _ _ t⟩
      · exact q1.elim
    · exact q1.elim
end
end PL

namespace PL
open PySem PySem.Spec PyProof.Rows L2
section
variable {G : Gx} {Z : Zx} {W : WX} {S S0 S1 S' : Pr} {H H0 H1 H' : Hp} {env env1 env' : Env} {σ σ1 : L2.St} {X : Cx}

/-! ### what is walked -/
def Kept (S0 : Pr) (H0 : Hp) (S : Pr) (H : Hp) : Prop := ∀ a, S0 a → S a ∧ ∀ o, H0 a = some o → H a = some o
theorem Kept.trans {S2 : Pr} {H2 : Hp} (a : Kept S0 H0 S1 H1) (b : Kept S1 H1 S2 H2) : Kept S0 H0 S2 H2 := fun c s => ⟨(b c (a c s).1).1, fun o e => (b c (a c s).1).2 o ((a c s).2 o e)⟩
/-- a walk over data -/
structure ItD (G : Gx) (S0 : Pr) (H0 : Hp) (J : It) (ds : List D) : Prop where
  go : ∀ i S H, i < ds.length → Kept S0 H0 S H → J.go i H
  stop : ∀ S H, Kept S0 H0 S H → J.stop ds.length H
  yld : ∀ (i : Nat) (d : D) (S : Pr) (H : Hp) (x : V) (H' : Hp) (Z : Zx) (env : Env) (σ : L2.St), ds[i]? = some d → Kept S0 H0 S H → Ok G Z S H env σ → J.yld i H x H' → ∃ S', Tr G Z S H env σ S' H' env σ ∧ Rp G S' H' d x
def tOfI (G : Gx) (Z : Zx) (W : WX) (f : M (List D)) : TI := fun σ H R => ∃ S env, Ok G Z S H env σ ∧ Post G Z W (f env) S H env σ (fun ds S' H' _ => ∀ J, ItD G S' H' J ds → R J H')
theorem pi_imp {tg e : Expr} {t t' : TI} (h : PI X tg e t) (k : ∀ σ H Q, t' σ H Q → t σ H Q) : PI X tg e t' := ⟨fun pins s σ H Q I h' => h.run pins s σ H Q I (k _ _ _ h')⟩
theorem itd_list {a : Addr} {vs : List V} {ds : List D} (s : S a) (q : H a = some (.lst vs)) (l : RpL G S H ds vs) : ItD G S H (Itl G.K a) ds where
  go := fun i S' H' hi k => ⟨vs, vs[i]'(by rw [l.length]; exact hi), SqL.of ((k a s).2 _ q), by rw [List.getElem?_eq_getElem]⟩
  stop := fun S' H' k => ⟨vs, SqL.of ((k a s).2 _ q), by rw [l.length]; exact Nat.le_refl _⟩
  yld := fun i d S' H' x H2 Z env σ e k o y => by
    obtain ⟨y1, y2⟩ := y
    subst y1
    obtain ⟨v, h1, h2⟩ := l.get e
    have h3 := y2 vs (SqL.of ((k a s).2 _ q))
    rw [h1] at h3
    cases h3
    exact ⟨S', Tr.refl o, h2.keep k⟩
theorem sqL_keep {a : Addr} {vs : List V} (s : S a ∨ WrL G.K a vs) (q : SqL G.K H a vs) (k : Kept S H S1 H1) : SqL G.K H1 a vs := by
  rcases s with s | s
  · exact seqL_keep (k a s).2 q
  · exact .inr s
theorem sqT_keep {a : Addr} {vs : List V} (s : S a ∨ WrT G.K a vs) (q : SqT G.K H a vs) (k : Kept S H S1 H1) : SqT G.K H1 a vs := by
  rcases s with s | s
  · exact seqT_keep (k a s).2 q
  · exact .inr s
theorem itd_rol {a : Addr} {vs : List V} {ds : List D} (s : S a ∨ WrL G.K a vs) (q : SqL G.K H a vs) (l : RpL G S H ds vs) : ItD G S H (Itl G.K a) ds where
  go := fun i S' H' hi k => ⟨vs, vs[i]'(by rw [l.length]; exact hi), sqL_keep s q k, by rw [List.getElem?_eq_getElem]⟩
  stop := fun S' H' k => ⟨vs, sqL_keep s q k, by rw [l.length]; exact Nat.le_refl _⟩
  yld := fun i d S' H' x H2 Z env σ e k o y => by
    obtain ⟨y1, y2⟩ := y
    subst y1
    obtain ⟨v, h1, h2⟩ := l.get e
    have h3 := y2 vs (sqL_keep s q k)
    rw [h1] at h3
    cases h3
    exact ⟨S', Tr.refl o, h2.keep k⟩
theorem itd_tup {a : Addr} {vs : List V} {ds : List D} (s : S a ∨ WrT G.K a vs) (q : SqT G.K H a vs) (l : RpL G S H ds vs) : ItD G S H (Itt G.K a) ds where
  go := fun i S' H' hi k => ⟨vs, vs[i]'(by rw [l.length]; exact hi), sqT_keep s q k, by rw [List.getElem?_eq_getElem]⟩
  stop := fun S' H' k => ⟨vs, sqT_keep s q k, by rw [l.length]; exact Nat.le_refl _⟩
  yld := fun i d S' H' x H2 Z env σ e k o y => by
    obtain ⟨y1, y2⟩ := y
    subst y1
    obtain ⟨v, h1, h2⟩ := l.get e
    have h3 := y2 vs (sqT_keep s q k)
    rw [h1] at h3
    cases h3
    exact ⟨S', Tr.refl o, h2.keep k⟩
/-- a list or a tuple, the library's two walks by the value -/
def iSeqA (K : PySem.W.Frag) (te : TE) : TI := fun σ H R => te σ H fun v H1 => ∃ (a : Addr), v = .ref a ∧ (((∃ xs, SqL K H1 a xs) ∧ R (Itl K a) H1) ∨ ((∃ xs, SqT K H1 a xs) ∧ R (Itt K a) H1))
theorem pi_seqA {tg l : Expr} {tl : TE} (hl : PE X l tl) : PI X tg l (iSeqA X.K tl) := by
  refine ⟨fun pins s σ H R I h => ?_⟩
  refine thn (hl.run pins s σ H _ I h) fun v s1 ⟨x, H1, I1, r1, q1⟩ => ?_
  obtain ⟨a, e, q1⟩ := q1
  subst e
  cases r1
  rcases q1 with ⟨⟨xs, hq⟩, q⟩ | ⟨⟨xs, hq⟩, q⟩
  · obtain ⟨its, rv, p, hz⟩ := I1.list hq
    refine wpAny_pyIter_list p.isList ?_
    refine ⟨s1.heap.objs.size, [s1.heap.objs.size], _, _, H1, rfl, I1.kept (t' := s1.toks) fun b o e => Heap.get?_push_of_some _ e, turn_list a _, ⟨_, Heap.get?_push_size _ rfl, rfl, rfl⟩, fun b hb => ?_, q⟩
    have e : b = s1.heap.objs.size := List.mem_singleton.mp hb
    rw [e]
    exact I1.fpOk (Nat.le_refl _) (I1.hok.fresh (Nat.le_refl _))
  · obtain ⟨its, rv, p, hz⟩ := I1.tuple hq
    refine wpAny_pyIter_tuple (show s1.heap.IsTuple a its.toArray from p) ?_
    refine ⟨s1.heap.objs.size, [s1.heap.objs.size], _, _, H1, rfl, I1.kept (t' := s1.toks) fun b o e => Heap.get?_push_of_some _ e, turn_tuple a _, ⟨_, Heap.get?_push_size _ rfl, rfl, rfl⟩, fun b hb => ?_, q⟩
    have e : b = s1.heap.objs.size := List.mem_singleton.mp hb
    rw [e]
    exact I1.fpOk (Nat.le_refl _) (I1.hok.fresh (Nat.le_refl _))
def itemsOf : D → Option (List D)
  | .lst xs => some xs
  | .rol xs => some xs
  | .tup xs => some xs
  | _ => none
def iSeq (f : M D) : M (List D) := bnd f fun d => lif (itemsOf d)
theorem si_seq {tg e : Expr} {f : M D} (hK : X.K = G.K) (h : PE X e (tOf G Z W f)) : PI X tg e (tOfI G Z W (iSeq f)) :=
  pi_imp (pi_seqA h) fun σ H R ⟨S, env, o, q⟩ => by
    refine tOf.go o (Post.bind q) fun d S1 H1 env1 x t1 rx q1 => ?_
    obtain ⟨ds, e, k⟩ := lif_post q1
    have k := k S1 H1 (Tr.refl t1.ok)
    unfold itemsOf at e
    rw [hK]
    split at e <;> try contradiction
    · cases e; cases rx; rename_i s hq l; exact ⟨_, rfl, .inl ⟨⟨_, SqL.of hq⟩, k _ (itd_list s hq l)⟩⟩
    · cases e; cases rx; rename_i s hq l; exact ⟨_, rfl, .inl ⟨⟨_, hq⟩, k _ (itd_rol s hq l)⟩⟩
    · cases e; cases rx; rename_i s hq l; exact ⟨_, rfl, .inr ⟨⟨_, hq⟩, k _ (itd_tup s hq l)⟩⟩
/-! ranges -/
def rngL (lo : Int) : Nat → List D
  | 0 => []
  | n + 1 => .int lo :: rngL (lo + 1) n
theorem rngL_len : ∀ (n : Nat) (lo : Int), (rngL lo n).length = n
  | 0, _ => rfl
  | n + 1, lo => congrArg Nat.succ (rngL_len n (lo + 1))
theorem rngL_at : ∀ (n i : Nat) (lo : Int) (d : D), (rngL lo n)[i]? = some d → d = .int (lo + i)
  | 0, _, _, _, h => by simp [rngL] at h
  | n + 1, 0, lo, d, h => by simp [rngL] at h; simp [← h]
  | n + 1, i + 1, lo, d, h => by
    have := rngL_at n i (lo + 1) d (by simpa [rngL] using h)
    rw [this]
    congr 1
    omega
theorem itd_rng {lo : Int} {n : Nat} : ItD G S H (Itr lo n) (rngL lo n) where
  go := fun i S' H' hi k => by rw [rngL_len] at hi; exact hi
  stop := fun S' H' k => by rw [rngL_len]; exact Nat.le_refl _
  yld := fun i d S' H' x H2 Z env σ e k o y => by
    obtain ⟨y1, y2⟩ := y
    subst y1 y2
    rw [rngL_at _ _ _ _ e]
    exact ⟨S', Tr.refl o, .int _⟩
def rngC (lo c : Int) : Nat → List D
  | 0 => []
  | n + 1 => .int lo :: rngC (lo + c) c n
theorem rngC_len : ∀ (n : Nat) (lo c : Int), (rngC lo c n).length = n
  | 0, _, _ => rfl
  | n + 1, lo, c => congrArg Nat.succ (rngC_len n (lo + c) c)
theorem rngC_at : ∀ (n i : Nat) (lo c : Int) (d : D), (rngC lo c n)[i]? = some d → d = .int (lo + (i : Nat) * c)
  | 0, _, _, _, _, h => by simp [rngC] at h
  | n + 1, 0, lo, c, d, h => by simp [rngC] at h; simp [← h]
  | n + 1, i + 1, lo, c, d, h => by
    have := rngC_at n i (lo + c) c d (by simpa [rngC] using h)
    rw [this]
    congr 1
    rw [Int.natCast_succ, Int.add_mul]
    omega
theorem itd_rngC {lo c : Int} {n : Nat} : ItD G S H (Itc lo c n) (rngC lo c n) where
  go := fun i S' H' hi k => by rw [rngC_len] at hi; exact hi
  stop := fun S' H' k => by rw [rngC_len]; exact Nat.le_refl _
  yld := fun i d S' H' x H2 Z env σ e k o y => by
    obtain ⟨y1, y2⟩ := y
    subst y1 y2
    rw [rngC_at _ _ _ _ _ e]
    exact ⟨S', Tr.refl o, .int _⟩
def lim62 (i : Int) : Bool := decide (-(2 ^ 62) ≤ i) && decide (i < 2 ^ 62)
theorem lim62_of {i : Int} (h : lim62 i = true) : -(2 ^ 62) ≤ i ∧ i < 2 ^ 62 := by
  unfold lim62 at h
  simp only [Bool.and_eq_true, decide_eq_true_eq] at h
  exact h
def rng1 : List D → Option (List D)
  | [.int j] => if lim62 j then some (rngL 0 j.toNat) else none
  | _ => none
def rng2 : List D → Option (List D)
  | [.int i, .int j] => if lim62 i && lim62 j then some (rngL i (j - i).toNat) else none
  | _ => none
def rng3 : List D → Option (List D)
  | [.int i, .int j, .int k] => if lim62 i && lim62 j then (if k = -1 then some (rngC i (-1) (i - j).toNat) else none) else none
  | _ => none
def iRng (g : List D → Option (List D)) (fa : M (List D)) : M (List D) := bnd fa fun as => lif (g as)
theorem si_rng1 {tg a : Expr} {fa : M (List D)} {p pos : Pos} (hg : Gl X "range") (hm : X.mg "range" = none) (ha : PA X [a] (tOfA G Z W fa)) (hs : starEach [a] X.env = [(false, eval a X.env)]) : PI X tg (.Call (.Name "range" p) [a] [] pos) (tOfI G Z W (iRng rng1 fa)) :=
  pi_imp (pi_range1 hg hm ha hs) fun σ H R ⟨S, env, o, q⟩ => by
    refine tOfA.go o (Post.bind q) fun as S1 H1 env1 vs t1 rx q1 => ?_
    obtain ⟨ds, e, k⟩ := lif_post q1
    unfold rng1 at e
    split at e <;> try contradiction
    split at e <;> cases e
    rename_i hl
    cases rx with | cons r t => cases t; cases r; exact ⟨_, rfl, (lim62_of hl).1, (lim62_of hl).2, k S1 H1 (Tr.refl t1.ok) _ itd_rng⟩
theorem si_rng2 {tg a b : Expr} {fa : M (List D)} {p pos : Pos} (hg : Gl X "range") (hm : X.mg "range" = none) (ha : PA X [a, b] (tOfA G Z W fa)) (hs : starEach [a, b] X.env = [(false, eval a X.env), (false, eval b X.env)]) (hs2 : starEach [b] X.env = [(false, eval b X.env)]) :
    PI X tg (.Call (.Name "range" p) [a, b] [] pos) (tOfI G Z W (iRng rng2 fa)) :=
  pi_imp (pi_range2 hg hm ha hs hs2) fun σ H R ⟨S, env, o, q⟩ => by
    refine tOfA.go o (Post.bind q) fun as S1 H1 env1 vs t1 rx q1 => ?_
    obtain ⟨ds, e, k⟩ := lif_post q1
    unfold rng2 at e
    split at e <;> try contradiction
    split at e <;> cases e
    rename_i hl
    simp only [Bool.and_eq_true] at hl
    have l1 := lim62_of hl.1
    have l2 := lim62_of hl.2
    cases rx with | cons r t => cases t with | cons r2 t => cases t; cases r; cases r2; exact ⟨_, _, rfl, ⟨l1.1, l1.2, l2.1, l2.2⟩, k S1 H1 (Tr.refl t1.ok) _ itd_rng⟩
theorem si_rng3 {tg a b c : Expr} {fa : M (List D)} {p pos : Pos} (hg : Gl X "range") (hm : X.mg "range" = none) (ha : PA X [a, b, c] (tOfA G Z W fa)) (hs : starEach [a, b, c] X.env = (false, eval a X.env) :: starEach [b, c] X.env) (hpl : (backTo pos (starEach [b, c] X.env)).any (·.1) = false) :
    PI X tg (.Call (.Name "range" p) [a, b, c] [] pos) (tOfI G Z W (iRng rng3 fa)) :=
  pi_imp (pi_range3 hg hm ha hs hpl) fun σ H R ⟨S, env, o, q⟩ => by
    refine tOfA.go o (Post.bind q) fun as S1 H1 env1 vs t1 rx q1 => ?_
    obtain ⟨ds, e, k⟩ := lif_post q1
    unfold rng3 at e
    split at e <;> try contradiction
    split at e <;> try contradiction
    split at e <;> cases e
    rename_i hl hk
    subst hk
    simp only [Bool.and_eq_true] at hl
    have l1 := lim62_of hl.1
    have l2 := lim62_of hl.2
    cases rx with | cons r t => cases t with | cons r2 t => cases t with | cons r3 t => cases t; cases r; cases r2; cases r3; exact ⟨_, _, _, _, rfl, RgC.neg l1.1 l1.2 l2.1 l2.2, k S1 H1 (Tr.refl t1.ok) _ itd_rngC⟩
/-! enumerate, zip, reversed -/
def enumD (n : Nat) : List D → List D
  | [] => []
  | d :: ds => .tup [.int (n : Nat), d] :: enumD (n + 1) ds
theorem enumD_len : ∀ (ds : List D) (n : Nat), (enumD n ds).length = ds.length
  | [], _ => rfl
  | _ :: ds, n => congrArg Nat.succ (enumD_len ds (n + 1))
theorem enumD_at : ∀ (ds : List D) (n i : Nat) (d : D), (enumD n ds)[i]? = some d → ∃ d', ds[i]? = some d' ∧ d = .tup [.int ((n + i : Nat) : Int), d']
  | [], _, _, _, h => by simp [enumD] at h
  | x :: ds, n, 0, d, h => by simp [enumD] at h; exact ⟨x, rfl, by simp [← h]⟩
  | x :: ds, n, i + 1, d, h => by
    obtain ⟨d', h1, h2⟩ := enumD_at ds (n + 1) i d (by simpa [enumD] using h)
    exact ⟨d', by simpa using h1, by rw [h2, Nat.add_right_comm, Nat.add_assoc]⟩
def zipD : List D → List D → List D
  | x :: xs, y :: ys => .tup [x, y] :: zipD xs ys
  | _, _ => []
theorem zipD_len : ∀ (xs ys : List D), (zipD xs ys).length = min xs.length ys.length
  | [], _ => by simp [zipD]
  | _ :: _, [] => by simp [zipD]
  | x :: xs, y :: ys => by simp only [zipD, List.length_cons, zipD_len xs ys]; omega
theorem zipD_at : ∀ (xs ys : List D) (i : Nat) (d : D), (zipD xs ys)[i]? = some d → ∃ x y, xs[i]? = some x ∧ ys[i]? = some y ∧ d = .tup [x, y]
  | [], _, _, _, h => by simp [zipD] at h
  | _ :: _, [], _, _, h => by simp [zipD] at h
  | x :: xs, y :: ys, 0, d, h => by simp [zipD] at h; exact ⟨x, y, rfl, rfl, h.symm⟩
  | x :: xs, y :: ys, i + 1, d, h => by
    obtain ⟨a, b, h1, h2, h3⟩ := zipD_at xs ys i d (by simpa [zipD] using h)
    exact ⟨a, b, by simpa using h1, by simpa using h2, h3⟩
/-- a list that stands -/
def StL (G : Gx) (S : Pr) (H : Hp) (a : Addr) (vs : List V) : Prop := ∀ S1 H1, Kept S H S1 H1 → SqL G.K H1 a vs
def StT (G : Gx) (S : Pr) (H : Hp) (a : Addr) (vs : List V) : Prop := ∀ S1 H1, Kept S H S1 H1 → SqT G.K H1 a vs
theorem itd_enum {a : Addr} {vs : List V} {ds : List D} (q : StL G S H a vs) (l : RpL G S H ds vs) : ItD G S H (Ite G.K a) (enumD 0 ds) where
  go := fun i S' H' hi k => ⟨vs, vs[i]'(by rw [l.length]; rw [enumD_len] at hi; exact hi), q _ _ k, by rw [List.getElem?_eq_getElem]⟩
  stop := fun S' H' k => ⟨vs, q _ _ k, by rw [l.length, enumD_len]; exact Nat.le_refl _⟩
  yld := fun i d S' H' x H2 Z env σ e k o y => by
    obtain ⟨T, y0, y1, y2, y3, y4⟩ := y
    obtain ⟨d', e1, e2⟩ := enumD_at _ _ _ _ e
    subst y1 e2 y3
    obtain ⟨v, h1, h2⟩ := l.get e1
    have h3 := y4 vs (q _ _ k)
    rw [h1] at h3
    cases h3
    rw [Nat.zero_add]
    obtain ⟨t, r⟩ := Tr.newT o y2 (.cons (.int (i : Nat)) (.cons (h2.keep k) .nil))
    exact ⟨_, t, r⟩
theorem itd_enumT {a : Addr} {vs : List V} {ds : List D} (q : StT G S H a vs) (l : RpL G S H ds vs) : ItD G S H (ItET G.K a) (enumD 0 ds) where
  go := fun i S' H' hi k => ⟨vs, vs[i]'(by rw [l.length]; rw [enumD_len] at hi; exact hi), q _ _ k, by rw [List.getElem?_eq_getElem]⟩
  stop := fun S' H' k => ⟨vs, q _ _ k, by rw [l.length, enumD_len]⟩
  yld := fun i d S' H' x H2 Z env σ e k o y => by
    obtain ⟨T, y0, y1, y2, y3, y4⟩ := y
    obtain ⟨d', e1, e2⟩ := enumD_at _ _ _ _ e
    subst y1 e2 y3
    obtain ⟨v, h1, h2⟩ := l.get e1
    have h3 := y4 vs (q _ _ k)
    rw [h1] at h3
    cases h3
    rw [Nat.zero_add]
    obtain ⟨t, r⟩ := Tr.newT o y2 (.cons (.int (i : Nat)) (.cons (h2.keep k) .nil))
    exact ⟨_, t, r⟩
def StB (G : Gx) (S : Pr) (H : Hp) (b : Bool) (a : Addr) (vs : List V) : Prop := ∀ S1 H1, Kept S H S1 H1 → SqB G.K H1 b a vs
theorem itd_zipB {b1 b2 : Bool} {a b : Addr} {vs us : List V} {ds es : List D} (q : StB G S H b1 a vs) (q2 : StB G S H b2 b us) (l : RpL G S H ds vs) (l2 : RpL G S H es us) : ItD G S H (ItzB G.K b1 b2 a b) (zipD ds es) where
  go := fun i S' H' hi k => by
    rw [zipD_len] at hi
    exact ⟨vs, us, vs[i]'(by rw [l.length]; omega), us[i]'(by rw [l2.length]; omega), q _ _ k, q2 _ _ k, by rw [List.getElem?_eq_getElem], by rw [List.getElem?_eq_getElem]⟩
  stop := fun S' H' k => ⟨vs, us, q _ _ k, q2 _ _ k, by rw [l.length, l2.length, zipD_len]⟩
  yld := fun i d S' H' x H2 Z env σ e k o y => by
    obtain ⟨T, y0, z0, y1, y2, y3, y4, y5⟩ := y
    obtain ⟨d', d2, e1, e2, e3⟩ := zipD_at _ _ _ _ e
    subst y1 e3 y3
    obtain ⟨v, h1, h2⟩ := l.get e1
    obtain ⟨u, g1, g2⟩ := l2.get e2
    have h3 := y4 vs (q _ _ k)
    have g3 := y5 us (q2 _ _ k)
    rw [h1] at h3
    rw [g1] at g3
    cases h3
    cases g3
    obtain ⟨t, r⟩ := Tr.newT o y2 (.cons (h2.keep k) (.cons (g2.keep k) .nil))
    exact ⟨_, t, r⟩
theorem Kept.of_tr (o : Ok G Z S H env σ) (t : Tr G Z S H env σ S1 H1 env1 σ1) : Kept S H S1 H1 := t.keepS o
def gEnumI : List D → Option (List D)
  | [.lst xs] => some (enumD 0 xs)
  | [.rol xs] => some (enumD 0 xs)
  | [.tup xs] => some (enumD 0 xs)
  | _ => none
def seqB : D → Option (List D)
  | .lst xs => some xs
  | .rol xs => some xs
  | .tup xs => some xs
  | _ => none
def gZipI : List D → Option (List D)
  | [a, b] => match seqB a, seqB b with
    | some xs, some ys => some (zipD xs ys)
    | _, _ => none
  | _ => none
theorem Rp.stL {xs : List D} {v : V} (h : Rp G S H (.lst xs) v) : ∃ a vs, v = .ref a ∧ StL G S H a vs ∧ RpL G S H xs vs := by
  cases h with | lst s q l => exact ⟨_, _, rfl, fun _ _ k => SqL.of ((k _ s).2 _ q), l⟩
theorem Rp.stR {xs : List D} {v : V} (h : Rp G S H (.rol xs) v) : ∃ a vs, v = .ref a ∧ StL G S H a vs ∧ RpL G S H xs vs := by
  cases h with | rol s q l => exact ⟨_, _, rfl, fun _ _ k => sqL_keep s q k, l⟩
theorem Rp.stT {xs : List D} {v : V} (h : Rp G S H (.tup xs) v) : ∃ a vs, v = .ref a ∧ StT G S H a vs ∧ RpL G S H xs vs := by
  cases h with | tup s q l => exact ⟨_, _, rfl, fun _ _ k => sqT_keep s q k, l⟩
theorem Kept.refl : Kept S H S H := fun _ s => ⟨s, fun _ e => e⟩
theorem si_enum {e : Expr} {fa : M (List D)} {p pos tpos : Pos} {elts : List Expr} {kk : Nat} (hK : X.K = G.K) (hg : Gl X "enumerate") (hm : X.mg "enumerate" = none) (ha : PA X [e] (tOfA G Z W fa)) (hs : starEach [e] X.env = [(false, eval e X.env)]) :
    PI X (.Tuple elts kk tpos) (.Call (.Name "enumerate" p) [e] [] pos) (tOfI G Z W (iRng gEnumI fa)) :=
  pi_imp (pi_enumA hg hm ha hs) fun σ H R ⟨S, env, o, q⟩ => by
    refine tOfA.go o (Post.bind q) fun as S1 H1 env1 vs t1 rx q1 => ?_
    obtain ⟨ds, e, k⟩ := lif_post q1
    rw [hK]
    unfold gEnumI at e
    split at e <;> try contradiction
    · cases e
      cases rx with | cons r t => cases t; obtain ⟨a, ws, e1, st, l⟩ := r.stL; subst e1; exact ⟨a, ws, rfl, .inl ⟨st _ _ Kept.refl, k S1 H1 (Tr.refl t1.ok) _ (itd_enum st l)⟩⟩
    · cases e
      cases rx with | cons r t => cases t; obtain ⟨a, ws, e1, st, l⟩ := r.stR; subst e1; exact ⟨a, ws, rfl, .inl ⟨st _ _ Kept.refl, k S1 H1 (Tr.refl t1.ok) _ (itd_enum st l)⟩⟩
    · cases e
      cases rx with | cons r t => cases t; obtain ⟨a, ws, e1, st, l⟩ := r.stT; subst e1; exact ⟨a, ws, rfl, .inr ⟨st _ _ Kept.refl, k S1 H1 (Tr.refl t1.ok) _ (itd_enumT st l)⟩⟩
theorem Rp.stB {d : D} {xs : List D} {v : V} (h : Rp G S H d v) (e : seqB d = some xs) : ∃ k a vs, v = .ref a ∧ StB G S H k a vs ∧ RpL G S H xs vs := by
  unfold seqB at e
  split at e <;> cases e
  · obtain ⟨a, vs, e1, st, l⟩ := h.stL; exact ⟨true, a, vs, e1, st, l⟩
  · obtain ⟨a, vs, e1, st, l⟩ := h.stR; exact ⟨true, a, vs, e1, st, l⟩
  · obtain ⟨a, vs, e1, st, l⟩ := h.stT; exact ⟨false, a, vs, e1, st, l⟩
theorem si_zip {e e2 : Expr} {fa : M (List D)} {p pos tpos : Pos} {elts : List Expr} {kk : Nat} (hK : X.K = G.K) (hg : Gl X "zip") (hm : X.mg "zip" = none) (ha : PA X [e, e2] (tOfA G Z W fa))
    (hs : starEach [e, e2] X.env = (false, eval e X.env) :: starEach [e2] X.env) (hpl : (backTo pos (starEach [e2] X.env)).any (·.1) = false) :
    PI X (.Tuple elts kk tpos) (.Call (.Name "zip" p) [e, e2] [] pos) (tOfI G Z W (iRng gZipI fa)) :=
  pi_imp (pi_zipB hg hm ha hs hpl) fun σ H R ⟨S, env, o, q⟩ => by
    refine tOfA.go o (Post.bind q) fun as S1 H1 env1 vs t1 rx q1 => ?_
    obtain ⟨ds, e, k⟩ := lif_post q1
    rw [hK]
    unfold gZipI at e
    split at e <;> try contradiction
    split at e <;> try contradiction
    rename_i x y xs ys h1 h2
    cases e
    cases rx with | cons r t => cases t with | cons r2 t =>
      cases t
      obtain ⟨b1, a, ws, e1, st, l⟩ := r.stB h1
      obtain ⟨b2, b, us, e2, st2, l2⟩ := r2.stB h2
      subst e1 e2
      exact ⟨b1, b2, a, b, ws, us, rfl, st _ _ Kept.refl, st2 _ _ Kept.refl, k S1 H1 (Tr.refl t1.ok) _ (itd_zipB st st2 l l2)⟩
end
end PL

namespace PL
open PySem PySem.Spec PyProof.Rows L2
section
variable {G : Gx} {Z : Zx} {W : WX} {S S0 S1 S2 S' : Pr} {H H0 H1 H2 H' : Hp} {env env1 env2 env' : Env} {σ σ1 : L2.St} {X : Cx}

/-! ### for -/
def asgM (t : Tg) (d : D) : M Unit := fun env => match asg t d env with
  | some e => .ok () e
  | none => .stuck
def loopK (k : M O) : O → M O
  | .next => k
  | .cnt => k
  | .brk => ret .next
  | .ret sv => ret (.ret sv)
def forL (t : Tg) (b : M O) : List D → M O
  | [] => ret .next
  | d :: ds => bnd (asgM t d) fun _ => bnd b (loopK (forL t b ds))
def sFor (f : M (List D)) (t : Tg) (b : M O) : M O := bnd f fun ds => forL t b ds
theorem asgM_postX {α : Type} {t : Tg} {d : D} {g : Unit → M α} {K : α → Pr → Hp → Env → L2.St → Prop} (q : PostX G Z W (bnd (asgM t d) g env) S H env σ K) : ∃ env1, asg t d env = some env1 ∧ PostX G Z W (g () env1) S H env σ K := by
  unfold bnd asgM at q
  cases e : asg t d env with
  | none => rw [e] at q; exact q.elim
  | some env1 => rw [e] at q; exact ⟨env1, rfl, q⟩
theorem ss_for {tg iter : Expr} {body : List Stmt} {f : M (List D)} {t : Tg} {b : M O} {pos : Pos} (hp : PassesOwn (model X.prog X.w) X.A X.env X.xe) (hc : X.calm = true) (hi : PI X tg iter (tOfI G Z W f)) (hg : PG X tg (tOfG G Z t)) (hb : PSs X body (tOfS G Z W b))
    (hs : ∀ x, foldedSetIterable iter X.env x = pure x) : PS X (.For tg iter body [] pos) (tOfS G Z W (sFor f t b)) :=
  ps_imp (ps_for hp hc hi hg hb hs) fun D σ H ⟨S, env, o, q⟩ => by
    refine ⟨S, env, o, q.bindE.mono fun ds S1 H1 env1 t1 q1 J w => ?_⟩
    refine ⟨fun i m σ' H' => m = ds.length - i ∧ i ≤ ds.length ∧ ∃ S' env', Ok G Z S' H' env' σ' ∧ Kept S1 H1 S' H' ∧ PostX G Z W (forL t b (ds.drop i) env') S' H' env' σ' (KD G Z D), ⟨ds.length, by simp, Nat.zero_le _, S1, env1, t1.ok, Kept.refl, q1⟩, ?_⟩
    rintro i m σ' H' ⟨rfl, hi, S2, env2, o2, k2, q2⟩
    by_cases hlt : i < ds.length
    · refine .inr ⟨w.go i S2 H' hlt k2, fun σ3 H3 => ∃ S' env', Ok G Z S' H3 env' σ3 ∧ Kept S1 H1 S' H3 ∧ PostX G Z W (forL t b (ds.drop (i + 1)) env') S' H3 env' σ3 (KD G Z D), fun σ3 H3 h => ⟨ds.length - (i + 1), by omega, rfl, hlt, h⟩, fun x H3 y => ?_⟩
      have ed : ds[i]? = some ds[i] := by rw [List.getElem?_eq_getElem]
      obtain ⟨S3, t3, r3⟩ := w.yld i ds[i] S2 H' x H3 Z env2 σ' ed k2 o2 y
      rw [List.drop_eq_getElem_cons hlt] at q2
      have q2 := q2.from t3
      simp only [forL] at q2
      obtain ⟨env3, ea, q3⟩ := asgM_postX q2
      refine ⟨S3, env2, ds[i], env3, t3.ok, r3, ea, fun σ4 st => ?_⟩
      have q4 := q3.from st.tr
      refine ⟨S3, env3, st.tr.ok, q4.bind.mono fun oo S5 H5 env5 σ5 t5 q5 => ?_⟩
      have k5 : Kept S1 H1 S5 H5 := (k2.trans (Kept.of_tr o2 (t3.trans (st.tr.trans t5))))
      cases oo with
      | next => exact ⟨S5, env5, t5.ok, k5, q5⟩
      | cnt => exact ⟨S5, env5, t5.ok, k5, q5⟩
      | brk => exact q5 S5 H5 σ5 (Tr.refl t5.ok)
      | ret sv => exact q5 S5 H5 σ5 (Tr.refl t5.ok)
    · have e : i = ds.length := by omega
      subst e
      refine .inl ⟨w.stop S2 H' k2, ?_⟩
      rw [List.drop_length] at q2
      exact q2 S2 H' σ' (Tr.refl o2)

/-! ### while -/
def whileN (c : M Bool) (b : M O) : Nat → M O
  | 0 => sStuck
  | n + 1 => bnd c fun t => if t then bnd b (loopK (whileN c b n)) else ret .next
theorem ss_while {c : Expr} {body : List Stmt} {fc : M Bool} {b : M O} {n : Nat} {pos : Pos} (hp : PassesOwn (model X.prog X.w) X.A X.env X.xe) (hc : PT X c (tOfT G Z W fc)) (hb : PSs X body (tOfS G Z W b)) : PS X (.While c body [] pos) (tOfS G Z W (whileN fc b n)) :=
  ps_imp (ps_while hp hc hb) fun D σ H ⟨S, env, o, q⟩ => by
    refine ⟨fun m σ' H' => ∃ S' env', Ok G Z S' H' env' σ' ∧ PostX G Z W (whileN fc b m env') S' H' env' σ' (KD G Z D), ⟨n, S, env, o, q⟩, ?_⟩
    rintro m σ' H' ⟨S1, env1, o1, q1⟩
    cases m with
    | zero => exact q1.elim
    | succ m =>
      refine tOfT.go o1 q1.bindE fun t S2 H2 env2 t2 q2 => ?_
      cases t with
      | false => exact q2 S2 H2 σ' (Tr.refl t2.ok)
      | true =>
        refine ⟨fun σ3 H3 => ∃ S' env', Ok G Z S' H3 env' σ3 ∧ PostX G Z W (whileN fc b m env') S' H3 env' σ3 (KD G Z D), fun σ3 H3 h => ⟨m, Nat.lt_succ_self m, h⟩, ?_⟩
        refine ⟨S2, env2, t2.ok, (PostX.bind (show PostX G Z W ((b env2).bind (loopK (whileN fc b m))) S2 H2 env2 σ' (KD G Z D) from q2)).mono fun oo S5 H5 env5 σ5 t5 q5 => ?_⟩
        cases oo with
        | next => exact ⟨S5, env5, t5.ok, q5⟩
        | cnt => exact ⟨S5, env5, t5.ok, q5⟩
        | brk => exact q5 S5 H5 σ5 (Tr.refl t5.ok)
        | ret sv => exact q5 S5 H5 σ5 (Tr.refl t5.ok)

/-! ### comprehensions -/
def wipeE (env : Env) : List Nat → Env
  | [] => env
  | v :: vs => (wipeE env vs).set v .none
def svAt (env : Env) (i : Nat) : SV := match env[i]? with
  | some s => s
  | none => .none
def restE (env0 env : Env) : List Nat → Env
  | [] => env
  | v :: vs => (restE env0 env vs).set v (svAt env0 v)
theorem wipeE_len (env : Env) : ∀ vs : List Nat, (wipeE env vs).length = env.length
  | [] => rfl
  | v :: vs => by unfold wipeE; rw [List.length_set, wipeE_len env vs]
theorem restE_len (env0 env : Env) : ∀ vs : List Nat, (restE env0 env vs).length = env.length
  | [] => rfl
  | v :: vs => by unfold restE; rw [List.length_set, restE_len env0 env vs]
theorem wipeE_in {env : Env} {i : Nat} {s : SV} : ∀ {vs : List Nat}, (wipeE env vs)[i]? = some s → s ≠ .none → i ∉ vs ∧ env[i]? = some s
  | [], h, _ => ⟨by simp, h⟩
  | v :: vs, h, hn => by
    unfold wipeE at h
    rcases set_cases h with ⟨_, q⟩ | ⟨q1, q2⟩
    · exact absurd q hn
    · obtain ⟨h1, h2⟩ := wipeE_in q2 hn
      exact ⟨by simp only [List.mem_cons, not_or]; exact ⟨q1, h1⟩, h2⟩
theorem wipeE_out {env : Env} {i : Nat} : ∀ {vs : List Nat}, i ∉ vs → (wipeE env vs)[i]? = env[i]?
  | [], _ => rfl
  | v :: vs, h => by
    simp only [List.mem_cons, not_or] at h
    unfold wipeE
    rw [List.getElem?_set_ne (Ne.symm h.1), wipeE_out h.2]
theorem wipe_out {σ : L2.St} {i : Nat} : ∀ {vs : List Nat}, i ∉ vs → (wipe σ vs)[i]? = σ[i]?
  | [], _ => rfl
  | v :: vs, h => by
    simp only [List.mem_cons, not_or] at h
    unfold wipe
    rw [List.getElem?_set_ne (Ne.symm h.1), wipe_out h.2]
theorem restE_cases {env0 env : Env} {i : Nat} {s : SV} : ∀ {vs : List Nat}, (restE env0 env vs)[i]? = some s → (i ∈ vs ∧ s = svAt env0 i) ∨ (i ∉ vs ∧ env[i]? = some s)
  | [], h => .inr ⟨by simp, h⟩
  | v :: vs, h => by
    unfold restE at h
    rcases set_cases h with ⟨q1, q⟩ | ⟨q1, q2⟩
    · subst q1; exact .inl ⟨by simp, q⟩
    · rcases restE_cases q2 with ⟨h1, h2⟩ | ⟨h1, h2⟩
      · exact .inl ⟨by simp [h1], h2⟩
      · exact .inr ⟨by simp only [List.mem_cons, not_or]; exact ⟨q1, h1⟩, h2⟩
theorem svAt_some {env : Env} {i : Nat} {s : SV} (h : svAt env i = s) (hn : s ≠ .none) : env[i]? = some s := by
  unfold svAt at h
  cases e : env[i]? with
  | none => rw [e] at h; exact absurd h.symm hn
  | some t => rw [e] at h; exact congrArg some h
theorem own_wipe {vs : List Nat} {a : Addr} : Own (wipeE env vs) (wipe σ vs) a → ∃ i io xs, i ∉ vs ∧ env[i]? = some (.own io xs) ∧ σ[i]? = some (some (.ref a)) := fun ⟨i, io, xs, h1, h2⟩ => by
  obtain ⟨g1, g2⟩ := wipeE_in h1 (by simp)
  rw [wipe_out g1] at h2
  exact ⟨i, io, xs, g1, g2, h2⟩
/-- the block's own names are forgotten -/
theorem Ok.wipe (o : Ok G Z S H env σ) (vs : List Nat) : Ok G Z S H (wipeE env vs) (wipe σ vs) := by
  refine ⟨o.tb, o.nt, o.tr, o.old, by rw [wipe_length, wipeE_len]; exact o.len, fun i d h => ?_, fun i io xs h => ?_, fun i j io xs io' ys a h1 h2 h3 h4 => ?_, fun i xs a h1 h2 => ?_, fun i xs a h1 h2 => ?_⟩
  · obtain ⟨g1, g2⟩ := wipeE_in h (by simp)
    rw [wipe_out g1]
    exact o.val i d g2
  · obtain ⟨g1, g2⟩ := wipeE_in h (by simp)
    rw [wipe_out g1]
    exact o.own i io xs g2
  · obtain ⟨g1, g2⟩ := wipeE_in h1 (by simp)
    obtain ⟨g3, g4⟩ := wipeE_in h2 (by simp)
    rw [wipe_out g1] at h3
    rw [wipe_out g3] at h4
    exact o.inj i j io xs io' ys a g2 g4 h3 h4
  · obtain ⟨g1, g2⟩ := wipeE_in h1 (by simp)
    rw [wipe_out g1] at h2
    exact o.io i xs a g2 h2
  · obtain ⟨g1, g2⟩ := wipeE_in h1 (by simp)
    rw [wipe_out g1] at h2
    exact o.fr i xs a g2 h2
theorem Tr.wiped (o : Ok G Z S H env σ) (vs : List Nat) : Tr G Z S H env σ S H (wipeE env vs) (wipe σ vs) :=
  ⟨⟨fun _ _ e _ _ => e, fun _ e => e, fun _ e => e, fun _ e => .inl e⟩, o.wipe vs, fun a h => by obtain ⟨i, io, xs, _, h2, h3⟩ := own_wipe h; exact .inl ⟨i, io, xs, h2, h3⟩⟩
/-- behind a block: its own names as they were ahead of it -/
theorem Tr.restore {vs : List Nat} (o : Ok G Z S H env σ) (t : Tr G Z S H (wipeE env vs) (wipe σ vs) S1 H1 env1 (wipe σ vs)) : Tr G Z S H env σ S1 H1 (restE env env1 vs) σ := by
  have ow := o.wipe vs
  have sub : ∀ a, Own (wipeE env vs) (wipe σ vs) a → Own env σ a := fun a h => by obtain ⟨i, io, xs, _, h2, h3⟩ := own_wipe h; exact ⟨i, io, xs, h2, h3⟩
  have kk : Kept S H S1 H1 := Kept.of_tr ow t
  have σo : ∀ {i : Nat}, i ∉ vs → (wipe σ vs)[i]? = σ[i]? := fun h => wipe_out h
  have own1 : ∀ {i : Nat} {io : Bool} {xs : List D} {a : Addr}, i ∉ vs → env1[i]? = some (.own io xs) → σ[i]? = some (some (.ref a)) → Own env1 (wipe σ vs) a := fun {i io xs a} h h1 h2 => ⟨i, io, xs, h1, by rw [σo h]; exact h2⟩
  -- an own list of a wiped slot is not touched
  have apart : ∀ {i : Nat} {io : Bool} {xs : List D} {a : Addr}, i ∈ vs → env[i]? = some (.own io xs) → σ[i]? = some (some (.ref a)) → ¬ Own (wipeE env vs) (wipe σ vs) a := fun {i io xs a} h h1 h2 z => by
    obtain ⟨j, io', ys, g1, g2, g3⟩ := own_wipe z
    have := o.inj i j io xs io' ys a h1 g2 h2 g3
    subst this
    exact g1 h
  refine ⟨⟨fun a ob e n => t.ext.keep a ob e (fun z => n (sub a z)), t.ext.there, t.ext.sub, fun a z => ?_⟩, ⟨t.ok.tb, t.ok.nt, t.ok.tr, t.ok.old, ?_, fun i d h => ?_, fun i io xs h => ?_, fun i j io xs io' ys a h1 h2 h3 h4 => ?_, fun i xs a h1 h2 => ?_, fun i xs a h1 h2 => ?_⟩, fun a ⟨i, io, xs, h1, h2⟩ => ?_⟩
  · rcases t.ext.new a z with z | z | z
    · exact .inl z
    · exact .inr (.inl z)
    · exact .inr (.inr (sub a z))
  · have := t.ok.len
    rw [wipe_length] at this
    rw [restE_len]; exact this
  · rcases restE_cases h with ⟨g1, g2⟩ | ⟨g1, g2⟩
    · obtain ⟨v, f1, f2⟩ := o.val i d (svAt_some g2.symm (by simp))
      exact ⟨v, f1, f2.keep kk⟩
    · obtain ⟨v, f1, f2⟩ := t.ok.val i d g2
      rw [σo g1] at f1
      exact ⟨v, f1, f2⟩
  · rcases restE_cases h with ⟨g1, g2⟩ | ⟨g1, g2⟩
    · have e := svAt_some g2.symm (by simp)
      obtain ⟨a, ws, f1, f2, f3, f4⟩ := o.own i io xs e
      have na := apart g1 e f1
      refine ⟨a, ws, f1, t.ext.keep a _ f2 na (fun _ z => by cases z), fun z => ?_, f4.keep kk⟩
      rcases t.ext.new a z with z | z | z
      · exact f3 z
      · rw [f2] at z; cases z
      · exact na z
    · obtain ⟨a, ws, f1, f2, f3, f4⟩ := t.ok.own i io xs g2
      rw [σo g1] at f1
      exact ⟨a, ws, f1, f2, f3, f4⟩
  · have mix : ∀ {i j : Nat} {io io' : Bool} {xs ys : List D}, i ∈ vs → env[i]? = some (.own io xs) → σ[i]? = some (some (.ref a)) → j ∉ vs → env1[j]? = some (.own io' ys) → σ[j]? = some (some (.ref a)) → False := fun {i j io io' xs ys} g1 e h3 k1 k2 h4 => by
      rcases t.sub a (own1 k1 k2 h4) with z | z
      · exact apart g1 e h3 z
      · exact (o.notS ⟨i, io, xs, e, h3⟩).2 z
    rcases restE_cases h1 with ⟨g1, g2⟩ | ⟨g1, g2⟩ <;> rcases restE_cases h2 with ⟨k1, k2⟩ | ⟨k1, k2⟩
    · exact o.inj i j io xs io' ys a (svAt_some g2.symm (by simp)) (svAt_some k2.symm (by simp)) h3 h4
    · exact (mix g1 (svAt_some g2.symm (by simp)) h3 k1 k2 h4).elim
    · exact (mix k1 (svAt_some k2.symm (by simp)) h4 g1 g2 h3).elim
    · exact t.ok.inj i j io xs io' ys a g2 k2 (by rw [σo g1]; exact h3) (by rw [σo k1]; exact h4)
  · rcases restE_cases h1 with ⟨g1, g2⟩ | ⟨g1, g2⟩
    · exact o.io i xs a (svAt_some g2.symm (by simp)) h2
    · exact t.ok.io i xs a g2 (by rw [σo g1]; exact h2)
  · rcases restE_cases h1 with ⟨g1, g2⟩ | ⟨g1, g2⟩
    · exact o.fr i xs a (svAt_some g2.symm (by simp)) h2
    · exact t.ok.fr i xs a g2 (by rw [σo g1]; exact h2)
  · rcases restE_cases h1 with ⟨g1, g2⟩ | ⟨g1, g2⟩
    · exact .inl ⟨i, io, xs, svAt_some g2.symm (by simp), h2⟩
    · rcases t.sub a (own1 g1 g2 h2) with z | z
      · exact .inl (sub a z)
      · exact .inr z
/-- an object that nobody knows is changed -/
theorem Tr.free {a : Addr} {ob : HO} (o : Ok G Z S H env σ) (h1 : ¬ S a) (h2 : ¬ Own env σ a) (hnt : ∀ o, H a = some o → NT o) : Ok G Z S (upd H a ob) env σ ∧ Kept S H S (upd H a ob) := by
  have kk : Kept S H S (upd H a ob) := fun b s => ⟨s, fun ob' e => by rw [upd_ne (fun z => by subst z; exact h1 s)]; exact e⟩
  refine ⟨⟨tabs_upd hnt o.tb, fun b s ps => ?_, fun b s => ?_, fun b s => ?_, o.len, fun i d e => ?_, fun i io xs e => ?_, o.inj, o.io, o.fr⟩, kk⟩
  · rw [upd_ne (fun z => by subst z; exact h1 s)]; exact o.nt b s ps
  · by_cases z : b = a
    · subst z; rw [upd_same]; simp
    · rw [upd_ne z]; exact o.tr b s
  · by_cases z : b = a
    · subst z; rw [upd_same]; simp
    · rw [upd_ne z]; exact o.old b s
  · obtain ⟨v, f1, f2⟩ := o.val i d e
    exact ⟨v, f1, f2.keep kk⟩
  · obtain ⟨b, vs, f1, f2, f3, f4⟩ := o.own i io xs e
    refine ⟨b, vs, f1, ?_, f3, f4.keep kk⟩
    rw [upd_ne (fun z => by subst z; exact h2 ⟨i, io, xs, e, f1⟩)]
    exact f2

def noX {α : Type} (r : R α) : R α := match r with
  | .ok a e => .ok a e
  | _ => .stuck
/-- one turn: the item, or none -/
def lcT (t : Tg) (c : M Bool) (e : M D) (d : D) : M (Option D) := fun env => noX ((bnd (asgM t d) fun _ => bnd c fun b => if b then bnd e fun y => ret (some y) else ret none) env)
def wipeM (vs : List Nat) : M Unit := fun env => .ok () (wipeE env vs)
def lcL (vs : List Nat) (t : Tg) (c : M Bool) (e : M D) : List D → M (List D)
  | [] => ret []
  | d :: ds => bnd (lcT t c e d) fun y => bnd (wipeM vs) fun _ => bnd (lcL vs t c e ds) fun ys => ret (match y with
    | some z => z :: ys
    | none => ys)
def lcR (vs : List Nat) (env0 : Env) (r : R (List D)) : R (List D) := match r with
  | .ok ys env1 => .ok ys (restE env0 env1 vs)
  | _ => .stuck
def eLc (f : M (List D)) (vs : List Nat) (t : Tg) (c : M Bool) (e : M D) : M (List D) := bnd f fun ds => fun env0 => if fits ds.length then lcR vs env0 (lcL vs t c e ds (wipeE env0 vs)) else .stuck
def WF : WX := fun _ _ _ _ => False
theorem R.bind_ok {α β : Type} {r : R α} {g : α → M β} {b : β} {e : Env} (h : r.bind g = .ok b e) : ∃ a e1, r = .ok a e1 ∧ g a e1 = .ok b e := by
  cases r with
  | ok a e1 => exact ⟨a, e1, rfl, h⟩
  | exc x e1 => cases h
  | stuck => cases h
theorem noX_ok {α : Type} {r : R α} {b : α} {e : Env} (h : noX r = .ok b e) : r = .ok b e := by
  cases r with
  | ok a e1 => exact h
  | exc x e1 => cases h
  | stuck => cases h
theorem asgM_ok {t : Tg} {d : D} {u : Unit} {e e1 : Env} (h : asgM t d e = .ok u e1) : asg t d e = some e1 := by
  unfold asgM at h
  cases q : asg t d e with
  | none => rw [q] at h; cases h
  | some e2 => rw [q] at h; cases h; rfl
theorem lcT_ok {t : Tg} {c : M Bool} {e : M D} {d : D} {y : Option D} {env env3 : Env} (h : lcT t c e d env = .ok y env3) : ∃ enva b envb, asg t d env = some enva ∧ c enva = .ok b envb ∧ ((b = false ∧ y = none ∧ env3 = envb) ∨ (b = true ∧ ∃ z, y = some z ∧ e envb = .ok z env3)) := by
  obtain ⟨u, ea, h1, h2⟩ := R.bind_ok (noX_ok h)
  obtain ⟨b, eb, h3, h4⟩ := R.bind_ok h2
  refine ⟨ea, b, eb, asgM_ok h1, h3, ?_⟩
  cases b with
  | false => cases h4; exact .inl ⟨rfl, rfl, rfl⟩
  | true =>
    obtain ⟨z, ec, h5, h6⟩ := R.bind_ok h4
    cases h6
    exact .inr ⟨rfl, z, rfl, h5⟩
theorem lcL_ok {vs : List Nat} {t : Tg} {c : M Bool} {e : M D} {d : D} {ds ys : List D} {env env2 : Env} (h : lcL vs t c e (d :: ds) env = .ok ys env2) : ∃ y env3 ys', lcT t c e d env = .ok y env3 ∧ lcL vs t c e ds (wipeE env3 vs) = .ok ys' env2 ∧ ys = (match y with
    | some z => z :: ys'
    | none => ys') := by
  obtain ⟨y, e3, h1, h2⟩ := R.bind_ok h
  obtain ⟨u, e4, h3, h4⟩ := R.bind_ok h2
  obtain ⟨zs, e5, h5, h6⟩ := R.bind_ok h4
  cases h3
  cases h6
  exact ⟨y, e3, zs, h1, h5, rfl⟩
theorem wipe_in {i : Nat} : ∀ {σ : L2.St} {vs : List Nat}, i ∈ vs → i < σ.length → (wipe σ vs)[i]? = some none
  | _, [], h, _ => by simp at h
  | σ, v :: vs, h, hl => by
    unfold wipe
    by_cases e : i = v
    · subst e
      rw [List.getElem?_set_self (by rw [wipe_length]; exact hl)]
    · rw [List.getElem?_set_ne (Ne.symm e)]
      exact wipe_in ((List.mem_cons.mp h).resolve_left e) hl
theorem wipe_eq {σ2 : L2.St} {vs ts : List Nat} (hl : σ2.length = (wipe σ vs).length) (hs : ∀ j, j ∉ ts → σ2[j]? = (wipe σ vs)[j]?) (sub : ∀ j ∈ ts, j ∈ vs) : wipe σ2 vs = wipe σ vs := by
  refine List.ext_getElem? fun i => ?_
  rw [wipe_length] at hl
  by_cases hi : i ∈ vs
  · by_cases hlt : i < σ.length
    · rw [wipe_in hi hlt, wipe_in hi (by rw [hl]; exact hlt)]
    · rw [List.getElem?_eq_none (by rw [wipe_length]; omega), List.getElem?_eq_none (by rw [wipe_length]; omega)]
  · rw [wipe_out hi, hs i fun z => hi (sub i z)]
theorem Tr.apart {D : Addr} {ob : HO} (t : Tr G Z S H env σ S1 H1 env1 σ1) (h : H D = some ob) (h1 : ¬ S D) (h2 : ¬ Own env σ D) (hnt : ∀ ps, ob ≠ .tbl ps) : H1 D = some ob ∧ ¬ S1 D ∧ ¬ Own env1 σ1 D := by
  refine ⟨t.ext.keep D ob h h2 hnt, fun z => ?_, fun z => ?_⟩
  · rcases t.ext.new D z with z | z | z
    · exact h1 z
    · rw [h] at z; cases z
    · exact h2 z
  · rcases t.sub D z with z | z
    · exact h2 z
    · rw [h] at z; cases z
theorem Tr.updN {D : Addr} {ob : HO} (t : Tr G Z S H env σ S1 H1 env1 σ1) (h : H D = none) (h1 : ¬ S1 D) (h2 : ¬ Own env1 σ1 D) (hnt : ∀ o, H1 D = some o → NT o) : Tr G Z S H env σ S1 (upd H1 D ob) env1 σ1 := by
  refine ⟨⟨fun a o' e n m => ?_, fun a e => ?_, t.ext.sub, t.ext.new⟩, (Tr.free t.ok h1 h2 hnt).1, t.sub⟩
  · rw [upd_ne (ne_of_none e h)]; exact t.ext.keep a o' e n m
  · by_cases z : a = D
    · subst z; rw [upd_same]; simp
    · rw [upd_ne z]; exact t.ext.there a e
theorem own_rest {vs : List Nat} {a : Addr} (h : Own (restE env env1 vs) σ a) : Own env σ a ∨ Own env1 (wipe σ vs) a := by
  obtain ⟨i, io, xs, h1, h2⟩ := h
  rcases restE_cases h1 with ⟨g1, g2⟩ | ⟨g1, g2⟩
  · exact .inl ⟨i, io, xs, svAt_some g2.symm (by simp), h2⟩
  · exact .inr ⟨i, io, xs, g2, by rw [wipe_out g1]; exact h2⟩
theorem sizes_fit {n : Nat} (h : fits n = true) : n ≤ sizeLine := fits_line h
theorem lc_of {f : M (List D)} {vs : List Nat} {t : Tg} {c : M Bool} {e : M D} {Q : VK} (sub : ∀ j ∈ t.vars, j ∈ vs) (h : tOfF G Z W (eLc f vs t c e) σ H Q) : tLc (tOfI G Z W f) (tOfG G Z t) (tOfT G Z WF c) (tOf G Z WF e) vs σ H Q := by
  obtain ⟨S, env, o, q⟩ := h
  refine ⟨S, env, o, (Post.bind q).mono fun ds S1 H1 env1 t1 q1 J w => ?_⟩
  split at q1
  case isFalse => exact q1.elim
  rename_i hz
  have hz := fits_line hz
  intro D hD
  cases eL : lcL vs t c e ds (wipeE env1 vs) with
  | exc x e1 => rw [eL] at q1; exact q1.elim
  | stuck => rw [eL] at q1; exact q1.elim
  | ok ys env2 =>
  rw [eL] at q1
  have q1 : ∀ S' H', Tr G Z S1 H1 env1 σ S' H' (restE env1 env2 vs) σ → ∀ a ws, H' a = some (.lst ws) → ¬ S' a → ¬ Own (restE env1 env2 vs) σ a → H a = none → RpL G S' H' ys ws → Q (.ref a) H' := q1
  have nS : ¬ S1 D := fun z => t1.ok.tr D z hD
  have nO : ¬ Own env1 σ D := fun z => (t1.ok.notS z).2 hD
  have nW : ¬ Own (wipeE env1 vs) (wipe σ vs) D := fun z => ((t1.ok.wipe vs).notS z).2 hD
  refine ⟨fun i m H' => m = ds.length - i ∧ i ≤ ds.length ∧ ∃ S' env' acc ws ys', Tr G Z S1 H1 (wipeE env1 vs) (wipe σ vs) S' H' env' (wipe σ vs) ∧ H' D = some (.lst ws) ∧ ¬ S' D ∧ ¬ Own env' (wipe σ vs) D ∧ RpL G S' H' acc ws ∧ acc.length ≤ i ∧
    lcL vs t c e (ds.drop i) env' = .ok ys' env2 ∧ ys = acc ++ ys',
    ⟨ds.length, by simp, Nat.zero_le _, S1, wipeE env1 vs, [], [], ys, (Tr.refl (t1.ok.wipe vs)).updN hD nS nW (fun o' z => by rw [hD] at z; cases z), upd_same, nS, nW, .nil, Nat.le_refl _, by simpa using eL, rfl⟩, ?_⟩
  rintro i m H' ⟨rfl, hi, S2, env3, acc, ws, ys', T, d1, d2, d3, ra, la, el, ey⟩
  by_cases hlt : i < ds.length
  · have k2 : Kept S1 H1 S2 H' := Kept.of_tr (t1.ok.wipe vs) T
    refine .inr ⟨w.go i S2 H' hlt k2, fun H' => ∃ S' env' acc ws ys', Tr G Z S1 H1 (wipeE env1 vs) (wipe σ vs) S' H' env' (wipe σ vs) ∧ H' D = some (.lst ws) ∧ ¬ S' D ∧ ¬ Own env' (wipe σ vs) D ∧ RpL G S' H' acc ws ∧ acc.length ≤ i + 1 ∧
      lcL vs t c e (ds.drop (i + 1)) env' = .ok ys' env2 ∧ ys = acc ++ ys', fun H' h => ⟨ds.length - (i + 1), by omega, rfl, hlt, h⟩, fun x H3 y => ?_⟩
    have ed : ds[i]? = some ds[i] := by rw [List.getElem?_eq_getElem]
    obtain ⟨S3, t3, r3⟩ := w.yld i ds[i] S2 H' x H3 Z env3 (wipe σ vs) ed k2 T.ok y
    rw [List.drop_eq_getElem_cons hlt] at el
    obtain ⟨y, env4, ys2, l1, l2, l3⟩ := lcL_ok el
    obtain ⟨enva, b, envb, a1, a2, a3⟩ := lcT_ok l1
    refine ⟨S3, env3, ds[i], enva, t3.ok, r3, a1, fun σ2 st => ?_⟩
    have ew : wipe σ2 vs = wipe σ vs := wipe_eq st.len st.same sub
    refine ⟨ew, S3, enva, st.tr.ok, ?_⟩
    rw [a2]
    intro S4 H4 t4
    have tt := t3.trans (st.tr.trans t4)
    rcases a3 with ⟨b1, b2, b3⟩ | ⟨b1, z, b2, b3⟩
    · subst b1 b2 b3
      simp only [Bool.false_eq_true, if_false]
      have tw := tt.trans (Tr.wiped tt.ok vs)
      rw [ew] at tw
      obtain ⟨e1, e2, e3⟩ := tw.apart d1 d2 d3 (fun _ z => by cases z)
      exact ⟨S4, _, acc, ws, ys2, T.trans tw, e1, e2, e3, tw.rpl T.ok ra, by omega, l2, by rw [ey, l3]⟩
    · subst b1 b2
      simp only [if_true]
      refine ⟨S4, envb, t4.ok, ?_⟩
      rw [b3]
      intro S5 H5 t5 v rv
      have tt5 := tt.trans t5
      have tw := tt5.trans (Tr.wiped tt5.ok vs)
      rw [ew] at tw
      obtain ⟨e1, e2, e3⟩ := tw.apart d1 d2 d3 (fun _ z => by cases z)
      have ko := (Tr.free (ob := .lst (ws ++ [v])) tw.ok e2 e3 (fun o' z => by rw [e1] at z; cases z; exact nt_lst)).2
      refine ⟨ws, e1, by rw [ra.length]; omega, S5, _, acc ++ [z], ws ++ [v], ys2, (T.trans tw).updN hD e2 e3 (fun o' z => by rw [e1] at z; cases z; exact nt_lst), upd_same, e2, e3, ((tw.rpl T.ok ra).append (.cons rv .nil)).keep ko, by simp; omega, l2, by rw [ey, l3]; simp⟩
  · have e : i = ds.length := by omega
    subst e
    refine .inl ⟨w.stop S2 H' (Kept.of_tr (t1.ok.wipe vs) T), ?_⟩
    rw [List.drop_length] at el
    have el : R.ok [] env3 = R.ok ys' env2 := el
    cases el
    rw [List.append_nil] at ey
    subst ey
    refine q1 S2 H' (Tr.restore t1.ok T) D ws d1 d2 (fun z => ?_) (t1.back hD) ra
    rcases own_rest z with z | z
    · exact nO z
    · exact d3 z
theorem sf_lc {elt tg iter : Expr} {ifs : List Expr} {scope : Scope} {own : List (Str × Nat)} {pos : Pos} {f : M (List D)} {t : Tg} {c : M Bool} {e : M D} (hc : X.calm = true) (hN : X.N.Nodup) (hi : PI X tg iter (tOfI G Z W f)) (ok : BlkOk X.N X.env.scope scope own)
    (hg : ∀ (s : Shared) (H : Hp) (C : Addr) (cl : List (Str × Addr)) (fp : List Addr), PG (X.blk s H scope (compEnvC scope cl C X.env) fp) tg (tOfG G Z t)) (ht : ∀ (s : Shared) (H : Hp) (C : Addr) (cl : List (Str × Addr)) (fp : List Addr), PTs (X.blk s H scope (compEnvC scope cl C X.env) fp) ifs (tOfT G Z WF c))
    (he : ∀ (s : Shared) (H : Hp) (C : Addr) (cl : List (Str × Addr)) (fp : List Addr), PE (X.blk s H scope (compEnvC scope cl C X.env) fp) elt (tOf G Z WF e)) (hs : ∀ x, foldedSetIterable iter X.env x = pure x) (sub : ∀ j ∈ t.vars, j ∈ own.map (·.2)) :
    PE X (.ListComp elt [⟨tg, iter, ifs, 0⟩] scope pos) (tOfF G Z W (eLc f (own.map (·.2)) t c e)) :=
  pe_imp (pe_lc hc hN hi ok hg ht he hs) fun σ H Q h => lc_of sub h
theorem ss_setLc {i : Nat} {y : Str} {py : Pos} {elt tg iter : Expr} {ifs : List Expr} {scope : Scope} {own : List (Str × Nat)} {pos spos : Pos} {f : M (List D)} {t : Tg} {c : M Bool} {e : M D} (hc : X.calm = true) (hN : X.N.Nodup) (hy : X.N[i]? = some y) (hyl : X.env.scope.names.lookup y = some .local)
    (hsw : swapsWith (.ListComp elt [⟨tg, iter, ifs, 0⟩] scope pos) (some (.Name y py)) spos.line X.env = pure true) (hi : PI X tg iter (tOfI G Z W f)) (ok : BlkOk X.N X.env.scope scope own)
    (hg : ∀ (s : Shared) (H : Hp) (C : Addr) (cl : List (Str × Addr)) (fp : List Addr), PG (X.blk s H scope (compEnvC scope cl C X.env) fp) tg (tOfG G Z t)) (ht : ∀ (s : Shared) (H : Hp) (C : Addr) (cl : List (Str × Addr)) (fp : List Addr), PTs (X.blk s H scope (compEnvC scope cl C X.env) fp) ifs (tOfT G Z WF c))
    (he : ∀ (s : Shared) (H : Hp) (C : Addr) (cl : List (Str × Addr)) (fp : List Addr), PE (X.blk s H scope (compEnvC scope cl C X.env) fp) elt (tOf G Z WF e)) (hs : ∀ x, foldedSetIterable iter X.env x = pure x) (sub : ∀ j ∈ t.vars, j ∈ own.map (·.2)) :
    PS X (.Assign [.Name y py] (.ListComp elt [⟨tg, iter, ifs, 0⟩] scope pos) spos) (tOfS G Z W (sSetO i (eLc f (own.map (·.2)) t c e))) :=
  ps_imp (ps_setLc hc hN hy hyl hsw hi ok hg ht he hs) fun D σ H h => by
    have h2 : tAsg (tOfF G Z W (eLc f (own.map (·.2)) t c e)) (gName i) D σ H := asg_setO h
    exact lc_of sub h2
/-- tests of a clause -/
theorem pts_imp {ifs : List Expr} {t t' : TT} (h : PTs X ifs t) (k : ∀ σ H Q, t' σ H Q → t σ H Q) : PTs X ifs t' := ⟨fun pins s σ H Q I h' => h.run pins s σ H Q I (k _ _ _ h')⟩
theorem stt_nil : PTs X [] (tOfT G Z W (ret true)) := pts_imp pts_nil fun σ H Q ⟨S, env, o, q⟩ => q S H (Tr.refl o)
theorem stt_one {c : Expr} {f : M Bool} (h : PT X c (tOfT G Z W f)) : PTs X [c] (tOfT G Z W f) := pts_one h
/-- a fresh list as a value -/
def eOfF (f : M (List D)) : M D := bnd f fun ds => ret (.lst ds)
theorem se_ofF {e : Expr} {f : M (List D)} (h : PE X e (tOfF G Z W f)) : PE X e (tOf G Z W (eOfF f)) :=
  pe_imp h fun σ H Q ⟨S, env, o, q⟩ => by
    refine ⟨S, env, o, (bind0E q).mono fun ds S1 H1 env1 t1 q1 a vs h1 h2 h3 h4 h5 => ?_⟩
    have t2 := t1.known h3 h4 (by rw [h1]; simp) (fun ps z => by rw [h1] at z; cases z)
    exact q1 _ _ t2 _ (.lst (.inr rfl) h1 (h5.keep fun b s => ⟨.inl s, fun _ e => e⟩))
end
end PL

set_option maxHeartbeats 4000000
namespace PL
open PySem PySem.Spec PyProof.Rows L2

/-! ### dict comprehensions, keys ints or texts -/
def pairM (ek ev : M D) : M D := bnd ek fun k => bnd ev fun v => ret (.tup [k, v])
def keyOf : D → Option Key
  | .int i => some (.inl i)
  | .str x => some (.inr x)
  | _ => none
def putD (m : List (Key × D)) (q : Key) (d : D) : List (Key × D) :=
  if (m.any fun kv => decide (kv.1 = q)) = true then m.map (fun kv => if kv.1 = q then (kv.1, d) else kv) else m ++ [(q, d)]
def stepD (m : List (Key × D)) : D → Option (List (Key × D))
  | .tup [k, v] => (keyOf k).map fun q => putD m q v
  | _ => none
def mkD : List (Key × D) → List D → Option (List (Key × D))
  | m, [] => some m
  | m, p :: ps => (stepD m p).bind fun m' => mkD m' ps
def PrD (m : List (Key × D)) : List (D × D) := m.map fun p => (keyD p.1, p.2)
def eDc (f : M (List D)) (vs : List Nat) (t : Tg) (c : M Bool) (ek ev : M D) : M D := bnd (eLc f vs t c (pairM ek ev)) fun ps => lif ((mkD [] ps).map fun m => .dct (PrD m))
theorem nt_dK {kvs : List (Key × V)} : NT (.dK kvs) := ⟨fun _ z => (by cases z), fun c q z => (by unfold LamX.CodeO at z; cases z)⟩
theorem keyD_inj {k j : Key} (h : keyD k = keyD j) : k = j := by
  cases k <;> cases j <;> simp [keyD] at h <;> simp [h]
theorem keyOf_rp {G : Gx} {S : Pr} {H : Hp} {d : D} {v : V} {q : Key} (h : keyOf d = some q) (r : Rp G S H d v) : v = kV q := by
  cases r <;> simp [keyOf] at h <;> subst h <;> rfl
section
variable {G : Gx} {Z : Zx} {W : WX} {S S1 S' : Pr} {H H1 H' : Hp} {env env1 env' : Env} {σ σ1 σ' : L2.St} {X : Cx}
theorem rpd_inv {p : Key × D} {m : List (Key × D)} {kvs : List (Key × V)} (h : RpD G S H (PrD (p :: m)) kvs) : ∃ v vs, kvs = (p.1, v) :: vs ∧ Rp G S H p.2 v ∧ RpD G S H (PrD m) vs := by
  have h : RpD G S H ((keyD p.1, p.2) :: PrD m) kvs := h
  generalize e : keyD p.1 = x at h
  cases h with
  | @cons k d _ v vs h1 h2 =>
    have := keyD_inj e
    subst this
    exact ⟨v, vs, rfl, h1, h2⟩
theorem rpd_any {k : Key} : ∀ {m : List (Key × D)} {kvs : List (Key × V)}, RpD G S H (PrD m) kvs → (m.any fun kv => decide (kv.1 = k)) = (kvs.any fun kv => decide (kv.1 = k))
  | [], _, h => by
    have h : RpD G S H [] _ := h
    cases h; rfl
  | p :: m, _, h => by
    obtain ⟨v, vs, rfl, _, h2⟩ := rpd_inv h
    rw [List.any_cons, List.any_cons, rpd_any h2]
theorem rpd_map {k : Key} {d : D} {x : V} (r : Rp G S H d x) : ∀ {m : List (Key × D)} {kvs : List (Key × V)}, RpD G S H (PrD m) kvs → RpD G S H (PrD (m.map fun kv => if kv.1 = k then (kv.1, d) else kv)) (kvs.map fun kv => if kv.1 = k then (kv.1, x) else kv)
  | [], _, h => by
    have h : RpD G S H [] _ := h
    cases h; exact .nil
  | p :: m, _, h => by
    obtain ⟨v, vs, rfl, h1, h2⟩ := rpd_inv h
    have ih := rpd_map (k := k) r h2
    rw [List.map_cons, List.map_cons]
    by_cases e : p.1 = k
    · rw [if_pos e, if_pos e]
      exact .cons r ih
    · rw [if_neg e, if_neg e]
      exact .cons h1 ih
theorem rpd_snoc {k : Key} {d : D} {x : V} (r : Rp G S H d x) : ∀ {m : List (Key × D)} {kvs : List (Key × V)}, RpD G S H (PrD m) kvs → RpD G S H (PrD (m ++ [(k, d)])) (kvs ++ [(k, x)])
  | [], _, h => by
    have h : RpD G S H [] _ := h
    cases h; exact .cons r .nil
  | p :: m, _, h => by
    obtain ⟨v, vs, rfl, h1, h2⟩ := rpd_inv h
    exact .cons h1 (rpd_snoc r h2)
theorem rpd_put {k : Key} {d : D} {x : V} {m : List (Key × D)} {kvs : List (Key × V)} (r : Rp G S H d x) (h : RpD G S H (PrD m) kvs) : RpD G S H (PrD (putD m k d)) (putK kvs k x) := by
  unfold putD putK
  rw [rpd_any h]
  split
  · exact rpd_map r h
  · exact rpd_snoc r h
theorem putD_len (m : List (Key × D)) (q : Key) (d : D) : (putD m q d).length ≤ m.length + 1 := by
  unfold putD
  split
  · rw [List.length_map]; omega
  · rw [List.length_append]; simp
theorem pairM_ok {ek ev : M D} {z : D} {e0 e2 : Env} (h : pairM ek ev e0 = .ok z e2) : ∃ k e1 v, ek e0 = .ok k e1 ∧ ev e1 = .ok v e2 ∧ z = .tup [k, v] := by
  obtain ⟨k, e1, h1, h2⟩ := R.bind_ok h
  obtain ⟨v, e3, h3, h4⟩ := R.bind_ok h2
  cases h4
  exact ⟨k, e1, v, h1, h3, rfl⟩
theorem dc_of {f : M (List D)} {vs : List Nat} {t : Tg} {c : M Bool} {ek ev : M D} {Q : VK} (sub : ∀ j ∈ t.vars, j ∈ vs) (h : tOf G Z W (eDc f vs t c ek ev) σ H Q) : tDc (tOfI G Z W f) (tOfG G Z t) (tOfT G Z WF c) (tOf G Z WF ek) (tOf G Z WF ev) vs σ H Q := by
  obtain ⟨S, env, o, q⟩ := h
  have q : Post G Z W ((bnd f fun ds => bnd (fun env0 => if fits ds.length then lcR vs env0 (lcL vs t c (pairM ek ev) ds (wipeE env0 vs)) else .stuck) fun ps => lif ((mkD [] ps).map fun m => D.dct (PrD m))) env) S H env σ (KQ G Q) := by
    have e : eDc f vs t c ek ev env = (bnd f fun ds => bnd (fun env0 => if fits ds.length then lcR vs env0 (lcL vs t c (pairM ek ev) ds (wipeE env0 vs)) else .stuck) fun ps => lif ((mkD [] ps).map fun m => D.dct (PrD m))) env := by
      unfold eDc eLc bnd R.bind
      cases f env <;> rfl
    rw [← e]; exact q
  refine ⟨S, env, o, (Post.bind q).mono fun ds S1 H1 env1 t1 q1 J w => ?_⟩
  unfold bnd at q1
  split at q1
  case isFalse => exact q1.elim
  rename_i hz
  have hz := fits_line hz
  have q1 : Post G Z W ((lcR vs env1 (lcL vs t c (pairM ek ev) ds (wipeE env1 vs))).bind fun ps => lif ((mkD [] ps).map fun m => D.dct (PrD m))) S1 H1 env1 σ (KQ G Q) := q1
  intro D0 hD
  cases eL : lcL vs t c (pairM ek ev) ds (wipeE env1 vs) with
  | exc x e1 => rw [eL] at q1; exact q1.elim
  | stuck => rw [eL] at q1; exact q1.elim
  | ok ys env2 =>
  rw [eL] at q1
  cases eM : mkD [] ys with
  | none =>
    have q1 : Post G Z W (lif ((mkD [] ys).map fun m => D.dct (PrD m)) (restE env1 env2 vs)) S1 H1 env1 σ (KQ G Q) := q1
    rw [eM] at q1; exact q1.elim
  | some M0 =>
  have q1 : Post G Z W (lif ((mkD [] ys).map fun m => D.dct (PrD m)) (restE env1 env2 vs)) S1 H1 env1 σ (KQ G Q) := q1
  rw [eM] at q1
  have q1 : ∀ S' H', Tr G Z S1 H1 env1 σ S' H' (restE env1 env2 vs) σ → ∀ v, Rp G S' H' (.dct (PrD M0)) v → Q v H' := q1
  have nS : ¬ S1 D0 := fun z => t1.ok.tr D0 z hD
  have nO : ¬ Own env1 σ D0 := fun z => (t1.ok.notS z).2 hD
  have nW : ¬ Own (wipeE env1 vs) (wipe σ vs) D0 := fun z => ((t1.ok.wipe vs).notS z).2 hD
  refine ⟨fun i m H' => m = ds.length - i ∧ i ≤ ds.length ∧ ∃ S' env' acc ws ys', Tr G Z S1 H1 (wipeE env1 vs) (wipe σ vs) S' H' env' (wipe σ vs) ∧ H' D0 = some (.dK ws) ∧ ¬ S' D0 ∧ ¬ Own env' (wipe σ vs) D0 ∧ RpD G S' H' (PrD acc) ws ∧ acc.length ≤ i ∧
    lcL vs t c (pairM ek ev) (ds.drop i) env' = .ok ys' env2 ∧ mkD acc ys' = some M0,
    ⟨ds.length, by simp, Nat.zero_le _, S1, wipeE env1 vs, [], [], ys, (Tr.refl (t1.ok.wipe vs)).updN hD nS nW (fun o' z => by rw [hD] at z; cases z), upd_same, nS, nW, .nil, Nat.le_refl _, by simpa using eL, eM⟩, ?_⟩
  rintro i m H' ⟨rfl, hi, S2, env3, acc, ws, ys', T, d1, d2, d3, ra, la, el, ey⟩
  by_cases hlt : i < ds.length
  · have k2 : Kept S1 H1 S2 H' := Kept.of_tr (t1.ok.wipe vs) T
    refine .inr ⟨w.go i S2 H' hlt k2, fun H' => ∃ S' env' acc ws ys', Tr G Z S1 H1 (wipeE env1 vs) (wipe σ vs) S' H' env' (wipe σ vs) ∧ H' D0 = some (.dK ws) ∧ ¬ S' D0 ∧ ¬ Own env' (wipe σ vs) D0 ∧ RpD G S' H' (PrD acc) ws ∧ acc.length ≤ i + 1 ∧
      lcL vs t c (pairM ek ev) (ds.drop (i + 1)) env' = .ok ys' env2 ∧ mkD acc ys' = some M0, fun H' h => ⟨ds.length - (i + 1), by omega, rfl, hlt, h⟩, fun x H3 y => ?_⟩
    have ed : ds[i]? = some ds[i] := by rw [List.getElem?_eq_getElem]
    obtain ⟨S3, t3, r3⟩ := w.yld i ds[i] S2 H' x H3 Z env3 (wipe σ vs) ed k2 T.ok y
    rw [List.drop_eq_getElem_cons hlt] at el
    obtain ⟨y, env4, ys2, l1, l2, l3⟩ := lcL_ok el
    obtain ⟨enva, b, envb, a1, a2, a3⟩ := lcT_ok l1
    refine ⟨S3, env3, ds[i], enva, t3.ok, r3, a1, fun σ2 st => ?_⟩
    have ew : wipe σ2 vs = wipe σ vs := wipe_eq st.len st.same sub
    refine ⟨ew, S3, enva, st.tr.ok, ?_⟩
    rw [a2]
    intro S4 H4 t4
    have tt := t3.trans (st.tr.trans t4)
    rcases a3 with ⟨b1, b2, b3⟩ | ⟨b1, z, b2, b3⟩
    · subst b1 b2 b3
      simp only [Bool.false_eq_true, if_false]
      have tw := tt.trans (Tr.wiped tt.ok vs)
      rw [ew] at tw
      obtain ⟨e1, e2, e3⟩ := tw.apart d1 d2 d3 (fun _ z => by cases z)
      refine ⟨S4, _, acc, ws, ys2, T.trans tw, e1, e2, e3, RpD.keep (tw.keepS T.ok) ra, by omega, l2, ?_⟩
      rw [← ey, l3]
    · subst b1 b2
      simp only [if_true]
      obtain ⟨k, envk, v, p1, p2, p3⟩ := pairM_ok b3
      subst p3
      have ey2 : mkD acc (.tup [k, v] :: ys2) = some M0 := by rw [← ey, l3]
      have ey2 : ((keyOf k).map fun q => putD acc q v).bind (fun m' => mkD m' ys2) = some M0 := ey2
      cases eq : keyOf k with
      | none => rw [eq] at ey2; cases ey2
      | some qk =>
      rw [eq] at ey2
      have ey2 : mkD (putD acc qk v) ys2 = some M0 := ey2
      refine ⟨S4, envb, t4.ok, ?_⟩
      rw [p1]
      intro S5 H5 t5 vk rk
      refine ⟨S5, envk, t5.ok, ?_⟩
      rw [p2]
      intro S6 H6 t6 vv rv
      have tt5 := (tt.trans t5).trans t6
      have tw := tt5.trans (Tr.wiped tt5.ok vs)
      rw [ew] at tw
      obtain ⟨e1, e2, e3⟩ := tw.apart d1 d2 d3 (fun _ z => by cases z)
      have ko := (Tr.free (ob := .dK (putK ws qk vv)) tw.ok e2 e3 (fun o' z => by rw [e1] at z; cases z; exact nt_dK)).2
      have rl : ws.length = acc.length := by rw [rpd_len ra]; unfold PrD; rw [List.length_map]
      refine ⟨ws, qk, keyOf_rp eq rk, e1, by rw [rl]; omega, S6, _, putD acc qk v, putK ws qk vv, ys2, (T.trans tw).updN hD e2 e3 (fun o' z => by rw [e1] at z; cases z; exact nt_dK), upd_same, e2, e3, RpD.keep ko (rpd_put rv (RpD.keep (tw.keepS T.ok) ra)), by have := putD_len acc qk v; omega, l2, ey2⟩
  · have e : i = ds.length := by omega
    subst e
    refine .inl ⟨w.stop S2 H' (Kept.of_tr (t1.ok.wipe vs) T), ?_⟩
    rw [List.drop_length] at el
    have el : R.ok [] env3 = R.ok ys' env2 := el
    cases el
    have ey : some acc = some M0 := ey
    cases ey
    have nR : ¬ Own (restE env1 env2 vs) σ D0 := fun z => by
      rcases own_rest z with z | z
      · exact nO z
      · exact d3 z
    have T2 := (Tr.restore t1.ok T).known nR hD (by rw [d1]; simp) (fun ps z => by rw [d1] at z; cases z)
    exact q1 _ _ T2 _ (.dct (.inr rfl) d1 (RpD.keep (fun b s => ⟨.inl s, fun _ e => e⟩) ra))
theorem se_dc {kx vx tg iter : Expr} {ifs : List Expr} {scope : Scope} {own : List (Str × Nat)} {pos : Pos} {f : M (List D)} {t : Tg} {c : M Bool} {ek ev : M D} (hc : X.calm = true) (hN : X.N.Nodup) (hi : PI X tg iter (tOfI G Z W f)) (ok : BlkOk X.N X.env.scope scope own)
    (hg : ∀ (s : Shared) (H : Hp) (C : Addr) (cl : List (Str × Addr)) (fp : List Addr), PG (X.blk s H scope (compEnvC scope cl C X.env) fp) tg (tOfG G Z t)) (ht : ∀ (s : Shared) (H : Hp) (C : Addr) (cl : List (Str × Addr)) (fp : List Addr), PTs (X.blk s H scope (compEnvC scope cl C X.env) fp) ifs (tOfT G Z WF c))
    (hk : ∀ (s : Shared) (H : Hp) (C : Addr) (cl : List (Str × Addr)) (fp : List Addr), PE (X.blk s H scope (compEnvC scope cl C X.env) fp) kx (tOf G Z WF ek)) (he : ∀ (s : Shared) (H : Hp) (C : Addr) (cl : List (Str × Addr)) (fp : List Addr), PE (X.blk s H scope (compEnvC scope cl C X.env) fp) vx (tOf G Z WF ev))
    (hs : ∀ x, foldedSetIterable iter X.env x = pure x) (sub : ∀ j ∈ t.vars, j ∈ own.map (·.2)) :
    PE X (.DictComp kx vx [⟨tg, iter, ifs, 0⟩] scope pos) (tOf G Z W (eDc f (own.map (·.2)) t c ek ev)) :=
  pe_imp (pe_dc hc hN hi ok hg ht hk he hs) fun σ H Q h => dc_of sub h
end
end PL

namespace PL
open PySem PySem.Spec PyProof.Rows L2
section
variable {G : Gx} {Z : Zx} {W : WX} {S S0 S1 S2 S' : Pr} {H H0 H1 H2 H' : Hp} {env env1 env2 env' : Env} {σ σ1 : L2.St} {X : Cx}

/-! ### a value, or a fresh list that is nobody's yet -/
inductive URp (G : Gx) (H0 : Hp) (S : Pr) (H : Hp) (P : Pr) : List SV → List V → List Addr → Prop
  | nil : URp G H0 S H P [] [] []
  | val {d : D} {v : V} {svs : List SV} {vs : List V} {as : List Addr} : Rp G S H d v → URp G H0 S H P svs vs as → URp G H0 S H P (.val d :: svs) (v :: vs) as
  | own {xs : List D} {a : Addr} {ws : List V} {svs : List SV} {vs : List V} {as : List Addr} : H a = some (.lst ws) → ¬ S a → ¬ P a → H0 a = none → RpL G S H xs ws → a ∉ as → URp G H0 S H P svs vs as → URp G H0 S H P (.own false xs :: svs) (.ref a :: vs) (a :: as)
def tOfU (G : Gx) (Z : Zx) (W : WX) (f : M SV) : TE := fun σ H Q => ∃ S env, Ok G Z S H env σ ∧ Post G Z W (f env) S H env σ (fun sv S' H' env' => ∀ v as, URp G H S' H' (Own env' σ) [sv] [v] as → Q v H')
def tOfUA (G : Gx) (Z : Zx) (W : WX) (f : M (List SV)) : TA := fun σ H Q => ∃ S env, Ok G Z S H env σ ∧ Post G Z W (f env) S H env σ (fun svs S' H' env' => ∀ vs as, URp G H S' H' (Own env' σ) svs vs as → Q vs H')
def uVal (f : M D) : M SV := bnd f fun d => ret (.val d)
def uOwn (f : M (List D)) : M SV := bnd f fun xs => ret (.own false xs)
theorem su_val {e : Expr} {f : M D} (h : PE X e (tOf G Z W f)) : PE X e (tOfU G Z W (uVal f)) :=
  pe_imp h fun σ H Q ⟨S, env, o, q⟩ => ⟨S, env, o, (bind0E q).mono fun d S1 H1 env1 t1 q1 v rv => q1 S1 H1 t1 v [] (.val rv .nil)⟩
theorem su_own {e : Expr} {f : M (List D)} (h : PE X e (tOfF G Z W f)) : PE X e (tOfU G Z W (uOwn f)) :=
  pe_imp h fun σ H Q ⟨S, env, o, q⟩ => ⟨S, env, o, (bind0E q).mono fun ds S1 H1 env1 t1 q1 a vs h1 h2 h3 h4 h5 => q1 S1 H1 t1 _ [a] (.own h1 h2 h3 h4 h5 (by simp) .nil)⟩
theorem URp.move {svs : List SV} {vs : List V} {as : List Addr} (o : Ok G Z S H env σ) (t : Tr G Z S H env σ S1 H1 env1 σ1) : URp G H0 S H (Own env σ) svs vs as → URp G H0 S1 H1 (Own env1 σ1) svs vs as := fun h => by
  induction h with
  | nil => exact .nil
  | val r _ ih => exact .val (t.rp o r) ih
  | own h1 h2 h3 h4 h5 h6 _ ih =>
    obtain ⟨e1, e2, e3⟩ := t.apart h1 h2 h3 (fun _ z => by cases z)
    exact .own e1 e2 e3 h4 (t.rpl o h5) h6 ih
theorem URp.base {svs : List SV} {vs : List V} {as : List Addr} {P : Pr} (k : ∀ a, H1 a = none → H0 a = none) : URp G H1 S H P svs vs as → URp G H0 S H P svs vs as := fun h => by
  induction h with
  | nil => exact .nil
  | val r _ ih => exact .val r ih
  | own h1 h2 h3 h4 h5 h6 _ ih => exact .own h1 h2 h3 (k _ h4) h5 h6 ih
theorem URp.fresh {svs : List SV} {vs : List V} {as : List Addr} {P : Pr} (h : URp G H0 S H P svs vs as) : ∀ a ∈ as, H0 a = none := by
  induction h with
  | nil => simp
  | val r _ ih => exact ih
  | own h1 h2 h3 h4 h5 h6 _ ih => intro a ha; rcases List.mem_cons.mp ha with rfl | ha; exact h4; exact ih a ha
def uNil : M (List SV) := ret []
def uCons (f : M SV) (g : M (List SV)) : M (List SV) := bnd f fun a => bnd g fun as => ret (a :: as)
theorem sua_nil : PA X [] (tOfUA G Z W uNil) := pa_imp pa_nil fun σ H Q ⟨S, env, o, q⟩ => q S H (Tr.refl o) [] [] .nil
theorem sua_cons {e : Expr} {es : List Expr} {f : M SV} {g : M (List SV)} (h : PE X e (tOfU G Z W f)) (t : PA X es (tOfUA G Z W g)) (hs : starEach (e :: es) X.env = (false, eval e X.env) :: starEach es X.env) : PA X (e :: es) (tOfUA G Z W (uCons f g)) :=
  pa_imp (pa_cons h t hs) fun σ H Q ⟨S, env, o, q⟩ => by
    refine ⟨S, env, o, (Post.bind q).mono fun sv S1 H1 env1 t1 q1 v as u => ?_⟩
    refine ⟨S1, env1, t1.ok, (Post.bind q1).mono fun svs S2 H2 env2 t2 q2 vs as2 u2 => ?_⟩
    have q3 := q2 S2 H2 (Tr.refl t2.ok)
    have u2' := u2.base (H0 := H) fun a => t1.back
    cases u with
    | val r un => exact q3 (v :: vs) as2 (.val (t2.rp t1.ok r) u2')
    | own h1 h2 h3 h4 h5 h6 un =>
      obtain ⟨e1, e2, e3⟩ := t2.apart h1 h2 h3 (fun _ z => by cases z)
      exact q3 _ _ (.own e1 e2 e3 h4 (t2.rpl t1.ok h5) (fun z => by rw [u2.fresh _ z] at h1; cases h1) u2')
/-- stores of such -/
def putU (i : Nat) (sv : SV) (env : Env) : Option Env := if i < env.length then (match sv with
  | .none => none
  | .val d => some (env.set i (.val d))
  | .own _ xs => some (env.set i (.own false xs))) else none
theorem Tr.freshX {i : Nat} {xs : List D} {a : Addr} {vs : List V} (o : Ok G Z S H env σ) (t : Tr G Z S H env σ S1 H1 env1 σ1) (hi : i < env1.length) (h1 : H1 a = some (.lst vs)) (h2 : ¬ S1 a) (h3 : ¬ Own env1 σ1 a) (h4 : H a = none) (r : RpL G S1 H1 xs vs) :
    Tr G Z S H env σ S1 H1 (env1.set i (.own false xs)) (σ1.set i (some (.ref a))) := by
  refine ⟨t.ext, Tr.storeO t.ok hi h1 h2 h3 (o.free h4) r, fun b ⟨l, io, ys, e1, e2⟩ => ?_⟩
  rcases set_cases e1 with ⟨hl, q⟩ | ⟨hl, q⟩
  · subst hl
    rw [List.getElem?_set_self (by rw [t.ok.len]; exact hi)] at e2
    cases e2; exact .inr h4
  · rw [σ_set_ne hl] at e2
    exact t.sub b ⟨l, io, ys, q, e2⟩
theorem own_put {i : Nat} {xs : List D} {a b : Addr} (hl : i < σ.length) (h : Own (env.set i (.own false xs)) (σ.set i (some (.ref a))) b) (hn : b ≠ a) : Own env σ b := by
  obtain ⟨l, io, ys, e1, e2⟩ := h
  rcases set_cases e1 with ⟨hl', q⟩ | ⟨hl', q⟩
  · subst hl'
    rw [List.getElem?_set_self hl] at e2
    cases e2; exact absurd rfl hn
  · rw [σ_set_ne hl'] at e2
    exact ⟨l, io, ys, q, e2⟩
theorem URp.put {i : Nat} {sv : SV} {v : V} {svs : List SV} {vs : List V} {as : List Addr} (o : Ok G Z S H env σ) (t : Tr G Z S H env σ S1 H1 env1 σ1) (u : URp G H S1 H1 (Own env1 σ1) (sv :: svs) (v :: vs) as) (e : putU i sv env1 = some env2) :
    Tr G Z S H env σ S1 H1 env2 (σ1.set i (some v)) ∧ ∃ as', URp G H S1 H1 (Own env2 (σ1.set i (some v))) svs vs as' := by
  unfold putU at e
  split at e <;> try contradiction
  rename_i hi
  cases u with
  | val r un =>
    cases e
    have ts := Tr.store t.ok hi r
    exact ⟨t.trans ts, _, un.move t.ok ts⟩
  | own h1 h2 h3 h4 h5 h6 un =>
    cases e
    rename_i xs a ws as
    refine ⟨Tr.freshX o t hi h1 h2 h3 h4 h5, as, ?_⟩
    clear h5
    revert h6
    induction un with
    | nil => intro _; exact .nil
    | val r _ ih => intro h6; exact .val r (ih h6)
    | own g1 g2 g3 g4 g5 g6 _ ih =>
      intro h6
      simp only [List.mem_cons, not_or] at h6
      refine .own g1 g2 (fun z => g3 (own_put (by rw [t.ok.len]; exact hi) z fun z => h6.1 z.symm)) g4 g5 g6 (ih h6.2)
def putM (i : Nat) (sv : SV) : M O := fun env => match putU i sv env with
  | some e => .ok .next e
  | none => .stuck
def sSetU (i : Nat) (f : M SV) : M O := bnd f (putM i)
theorem asg_setU {i : Nat} {f : M SV} {D' : Ends} (h : tOfS G Z W (sSetU i f) D' σ H) : tAsg (tOfU G Z W f) (gName i) D' σ H := by
  obtain ⟨S, env, o, q⟩ := h
  refine ⟨S, env, o, q.bind0.mono fun sv S1 H1 env1 t1 q1 v as u => ?_⟩
  unfold putM at q1
  split at q1
  · rename_i e he
    exact q1 S1 H1 _ (u.put o t1 he).1
  · exact q1.elim
theorem ss_setU {i : Nat} {x : Str} {e : Expr} {f : M SV} {pos pos' : Pos} (hN : X.N.Nodup) (hi : X.N[i]? = some x) (hx : Loc X.env.scope x) (he : PE X e (tOfU G Z W f)) (hs : swapsWith e (some (.Name x pos')) pos.line X.env = pure false) (hf : X.fn x = true ∨ X.env.scope.names.lookup x = some .local) :
    PS X (.Assign [.Name x pos'] e pos) (tOfS G Z W (sSetU i f)) := ps_imp (ps_set hN hi hx he hs hf) fun D σ H h => asg_setU h
def sPar2 (i j : Nat) (f : M (List SV)) : M O := bnd f fun svs => match svs with
  | [a, b] => bnd (putM i a) fun _ => putM j b
  | _ => sStuck
def sPar3 (i j l : Nat) (f : M (List SV)) : M O := bnd f fun svs => match svs with
  | [a, b, c] => bnd (putM i a) fun _ => bnd (putM j b) fun _ => putM l c
  | _ => sStuck
theorem putM_post {i : Nat} {sv : SV} {α : Type} {g : O → M α} {K : α → Pr → Hp → Env → L2.St → Prop} (q : PostX G Z W (bnd (putM i sv) g env1) S H env σ K) : ∃ env2, putU i sv env1 = some env2 ∧ PostX G Z W (g .next env2) S H env σ K := by
  unfold bnd putM at q
  cases e : putU i sv env1 with
  | none => rw [e] at q; exact q.elim
  | some e2 => rw [e] at q; exact ⟨e2, rfl, q⟩
theorem putM_end {i : Nat} {sv : SV} {K : O → Pr → Hp → Env → L2.St → Prop} (q : PostX G Z W (putM i sv env1) S H env σ K) : ∃ env2, putU i sv env1 = some env2 ∧ PostX G Z W (.ok .next env2) S H env σ K := by
  unfold putM at q
  cases e : putU i sv env1 with
  | none => rw [e] at q; exact q.elim
  | some e2 => rw [e] at q; exact ⟨e2, rfl, q⟩
theorem ss_par2 {i j : Nat} {x y : Str} {a b : Expr} {f : M (List SV)} {px py pt pos : Pos} {kt k2 pt2} (hc : X.calm = true) (hN : X.N.Nodup) (hi : X.N[i]? = some x) (hj : X.N[j]? = some y) (hij : i ≠ j)
    (hx : X.env.scope.names.lookup x = some .local) (hy : X.env.scope.names.lookup y = some .local) (ha : PA X [a, b] (tOfUA G Z W f))
    (hw : swappedStores [.Tuple [.Name x px, .Name y py] kt pt] (.Tuple [a, b] k2 pt2) X.env = pure (some [x, y])) :
    PS X (.Assign [.Tuple [.Name x px, .Name y py] kt pt] (.Tuple [a, b] k2 pt2) pos) (tOfS G Z W (sPar2 i j f)) :=
  ps_imp (ps_par hc hN hi hj hij hx hy ha hw) fun D σ H ⟨S, env, o, q⟩ => by
    refine ⟨S, env, o, q.bind0.mono fun svs S1 H1 env1 t1 q1 vs as u => ?_⟩
    split at q1
    · rename_i a b
      obtain ⟨env2, e2, q2⟩ := putM_post q1
      obtain ⟨env3, e3, q3⟩ := putM_end q2
      have hv : ∃ v w, vs = [v, w] := by
        cases u with
        | val _ u => cases u with
          | val _ u => cases u; exact ⟨_, _, rfl⟩
          | own _ _ _ _ _ _ u => cases u; exact ⟨_, _, rfl⟩
        | own _ _ _ _ _ _ u => cases u with
          | val _ u => cases u; exact ⟨_, _, rfl⟩
          | own _ _ _ _ _ _ u => cases u; exact ⟨_, _, rfl⟩
      obtain ⟨v, w, rfl⟩ := hv
      refine ⟨v, w, rfl, ?_⟩
      obtain ⟨t2, as2, u2⟩ := u.put o t1 e2
      obtain ⟨t3, as3, u3⟩ := u2.put o t2 e3
      exact q3 S1 H1 _ t3
    · exact q1.elim
theorem ss_par3 {i j l : Nat} {x y z : Str} {a b c : Expr} {f : M (List SV)} {px py pz pt pos : Pos} {kt k2 pt2} (hc : X.calm = true) (hN : X.N.Nodup) (hi : X.N[i]? = some x) (hj : X.N[j]? = some y) (hl : X.N[l]? = some z) (hij : i ≠ j) (hil : i ≠ l) (hjl : j ≠ l)
    (hx : X.env.scope.names.lookup x = some .local) (hy : X.env.scope.names.lookup y = some .local) (hz : X.env.scope.names.lookup z = some .local) (ha : PA X [a, b, c] (tOfUA G Z W f))
    (hw : swappedStores [.Tuple [.Name x px, .Name y py, .Name z pz] kt pt] (.Tuple [a, b, c] k2 pt2) X.env = pure (some [x, y, z])) :
    PS X (.Assign [.Tuple [.Name x px, .Name y py, .Name z pz] kt pt] (.Tuple [a, b, c] k2 pt2) pos) (tOfS G Z W (sPar3 i j l f)) :=
  ps_imp (ps_par3 hc hN hi hj hl hij hil hjl hx hy hz ha hw) fun D σ H ⟨S, env, o, q⟩ => by
    refine ⟨S, env, o, q.bind0.mono fun svs S1 H1 env1 t1 q1 vs as u => ?_⟩
    split at q1
    · rename_i a b c
      obtain ⟨env2, e2, q2⟩ := putM_post q1
      obtain ⟨env3, e3, q3⟩ := putM_post q2
      obtain ⟨env4, e4, q4⟩ := putM_end q3
      have h1 : ∀ {sv : SV} {svs : List SV} {vs : List V} {as : List Addr} {P : Pr}, URp G H S1 H1 P (sv :: svs) vs as → ∃ v ws as', vs = v :: ws ∧ URp G H S1 H1 P svs ws as' := fun u => by
        cases u with
        | val _ u => exact ⟨_, _, _, rfl, u⟩
        | own _ _ _ _ _ _ u => exact ⟨_, _, _, rfl, u⟩
      obtain ⟨v1, w1, _, rfl, u1⟩ := h1 u
      obtain ⟨v2, w2, _, rfl, u2⟩ := h1 u1
      obtain ⟨v3, w3, _, rfl, u3⟩ := h1 u2
      cases u3
      refine ⟨v1, v2, v3, rfl, ?_⟩
      obtain ⟨t2, as2, u2⟩ := u.put o t1 e2
      obtain ⟨t3, as3, u3⟩ := u2.put o t2 e3
      obtain ⟨t4, as4, u4⟩ := u3.put o t3 e4
      exact q4 S1 H1 _ t4
    · exact q1.elim
/-- return of such -/
def sRetU (f : M SV) : M O := bnd f fun sv => ret (.ret sv)
theorem ss_retU {e : Expr} {f : M SV} {pos : Pos} (h : PE X e (tOfU G Z W f)) : PS X (.Return (some e) pos) (tOfS G Z W (sRetU f)) :=
  ps_imp (ps_ret h) fun D σ H ⟨S, env, o, q⟩ => by
    refine ⟨S, env, o, q.bind0.mono fun sv S1 H1 env1 t1 q1 v as u => ?_⟩
    have q2 := q1 S1 H1 σ t1
    cases u with
    | val r un => exact q2 v r
    | own h1 h2 h3 h4 h5 h6 un => exact q2 _ ⟨_, _, rfl, o.free h4, h1, h2, h5⟩
/-- a def's outcome as such -/
def asU : SV → Option SV
  | .none => none
  | .val d => some (.val d)
  | .own _ xs => some (.own false xs)
def uCall (np : Nat) (F : Fn) (fa : M (List AV)) : M SV := bnd fa fun avs => bnd (callF np F avs) fun r => lif (asU r)
theorem su_call {N : List Str} {sc : Scope} {k np : Nat} {x : Str} {F : Fn} {e : Expr} {es : List Expr} {fa : M (List AV)} {p pos : Pos} (xo : XOk X N sc G k) (tk : Takes X W) (hF : FnAt X.prog X.w G X.base k x np F) (hg : Gl X x) (ha : PA X (e :: es) (tOfB G Z W fa))
    (hdb : (x == ("__debug__" : Str)) = false) (he : starEach (e :: es) X.env = (false, eval e X.env) :: starEach es X.env) (hpl : (backTo pos (starEach es X.env)).any (·.1) = false) :
    PE X (.Call (.Name x p) (e :: es) [] pos) (tOfU G Z W (uCall np F fa)) := by
  obtain ⟨f, fd, ps, hm, hk, hb, fn⟩ := hF.ex
  have fn' : FnG X.prog X.w X.K X.mg X.base k f fd ps (spOf G np F) := by rw [xo.K, xo.mg]; exact fn
  refine pe_imp (pe_callW fn' xo.room xo.guards hg (by rw [xo.mg]; exact hm) (by rw [xo.K]; exact hk) (by rw [xo.K]; exact hb) tk ha hdb he hpl) fun σ H Q ⟨S, env, o, q⟩ => ?_
  refine tOfB.go o (Post.bind q) fun avs S1 H1 env1 vs t1 rx q1 => ?_
  refine call_post t1.ok rx q1 fun sv outs S' H' v t ts rr q2 => ?_
  cases sv with
  | none => exact q2.elim
  | val d => exact q2 S' H' t v [] (.val rr .nil)
  | own io xs =>
    obtain ⟨a, ws, ev, r1, r2, r3, r4⟩ := rr
    subst ev
    have na : ¬ Own (bring env1 avs outs) σ a := fun z => (t1.ok.notS (ts a z)).2 r1
    have hn : H a = none := by
      cases e : H a with
      | none => rfl
      | some ob => exact absurd r1 (t1.ext.there a (by rw [e]; simp))
    exact q2 S' H' t _ [a] (.own r2 r3 na hn r4 (by simp) .nil)

/-! ### own lists lent -/
theorem Tr.lent {i : Nat} {io : Bool} {xs : List D} {a : Addr} (o : Ok G Z S H env σ) (he : env[i]? = some (.own io xs)) (hs : σ[i]? = some (some (.ref a)))
    (t : Tr G Z (fun b => S b ∨ b = a) H (env.set i (.val (.lst xs))) σ S' H' (env.set i (.val (.lst xs))) σ) (pu : Pu H H') : Tr G Z S H env σ (fun b => S' b ∧ b ≠ a) H' env σ := by
  have fz := Tr.freeze o he hs
  obtain ⟨a', ws, e1, e2, e3, e4⟩ := o.own i io xs he
  rw [hs] at e1; cases e1
  have osub : ∀ b, Own (env.set i (.val (.lst xs))) σ b → Own env σ b ∧ b ≠ a := fun b z => by
    obtain ⟨h1, j, io', ys, hj, f1, f2⟩ := own_set z
    refine ⟨h1, fun z => ?_⟩
    subst z
    exact hj (o.inj j i io' ys io xs b f1 he f2 hs)
  have kk : Kept S H (fun b => S' b ∧ b ≠ a) H' := fun b s => by
    obtain ⟨k1, k2⟩ := t.keepS fz.ok b (.inl s)
    exact ⟨⟨k1, fun z => by subst z; exact e3 s⟩, k2⟩
  have ha : H' a = some (.lst ws) := (t.keepS fz.ok a (.inr rfl)).2 _ e2
  refine ⟨⟨fun b ob e n => t.ext.keep b ob e (fun z => n (osub b z).1), t.ext.there, fun b s => (kk b s).1, fun b z => ?_⟩, ⟨t.ok.tb, fun b z => t.ok.nt b z.1, fun b z => t.ok.tr b z.1, t.ok.old, o.len, fun j d e => ?_, fun j io' ys e => ?_, o.inj, o.io, o.fr⟩, fun b z => .inl z⟩
  · rcases t.ext.new b z.1 with y | y | y
    · rcases y with y | y
      · exact .inl y
      · exact absurd y z.2
    · exact .inr (.inl y)
    · exact .inr (.inr (osub b y).1)
  · obtain ⟨v, f1, f2⟩ := o.val j d e
    exact ⟨v, f1, f2.keep kk⟩
  · obtain ⟨b, us, f1, f2, f3, f4⟩ := o.own j io' ys e
    exact ⟨b, us, f1, pu _ _ f2, fun z => by
      rcases t.ext.new b z.1 with y | y | y
      · rcases y with y | y
        · exact f3 y
        · exact z.2 y
      · rw [f2] at y; cases y
      · exact (t.ok.notS (by
          obtain ⟨l, io2, zs, p1, p2⟩ := y
          exact ⟨l, io2, zs, p1, p2⟩)).1 z.1, f4.keep kk⟩
end
end PL

namespace PL
open PySem PySem.Spec PyProof.Rows L2
section
variable {G : Gx} {Z : Zx} {W : WX} {S S0 S1 S2 S' : Pr} {H H0 H1 H2 H' : Hp} {env env1 env2 env' : Env} {σ σ1 : L2.St} {X : Cx}

/-! ### own lists lent to a def -/
mutual
def tupD : D → Bool
  | .non => true
  | .bl _ => true
  | .int _ => true
  | .str _ => true
  | .fn _ => true
  | .tup xs => tupDs xs
  | _ => false
def tupDs : List D → Bool
  | [] => true
  | x :: xs => tupD x && tupDs xs
end
mutual
/-- no list within: nothing of it lies at a list's place -/
theorem Rp.less {d : D} {v : V} (k : ∀ a, S a → (∀ xs, H a ≠ some (.lst xs)) → S' a) : Rp G S H d v → tupD d = true → Rp G S' H d v
  | .non, _ => .non
  | .bl b, _ => .bl b
  | .int i, _ => .int i
  | .str x, _ => .str x
  | .fn h, _ => .fn h
  | .tup (a := a) (vs := vs) s q l, h => by
    have h' : tupDs _ = true := h
    refine .tup ?_ q (RpL.less k l h')
    rcases s with s | s
    · rcases q with (q | ⟨o, q⟩) | q
      · exact .inl (k a s fun xs z => by rw [q] at z; cases z)
      · exact .inl (k a s fun xs z => by rw [q] at z; cases z)
      · exact .inr q
    · exact .inr s
  | .lst _ _ _, h => by cases h
  | .rol _ _ _, h => by cases h
  | .dct _ _ _, h => by cases h
theorem RpL.less {ds : List D} {vs : List V} (k : ∀ a, S a → (∀ xs, H a ≠ some (.lst xs)) → S' a) : RpL G S H ds vs → tupDs ds = true → RpL G S' H ds vs
  | .nil, _ => .nil
  | .cons h t, e => by
    simp only [tupDs, Bool.and_eq_true] at e
    exact .cons (Rp.less k h e.1) (RpL.less k t e.2)
end
def lendL (env : Env) : List Bool → List AV → List AV × List Nat
  | false :: ios, .ref i :: r => (match env[i]? with
    | some (.own _ xs) => (.val (.lst xs) :: (lendL env ios r).1, i :: (lendL env ios r).2)
    | _ => (.ref i :: (lendL env ios r).1, (lendL env ios r).2))
  | _ :: ios, v :: r => (v :: (lendL env ios r).1, (lendL env ios r).2)
  | [], r => (r, [])
  | _, [] => ([], [])
def frzE (env : Env) : List Nat → Env
  | [] => env
  | i :: ls => (match (frzE env ls)[i]? with
    | some (.own _ xs) => (frzE env ls).set i (.val (.lst xs))
    | _ => frzE env ls)
theorem frz_out : ∀ {ls : List Nat} {i : Nat}, i ∉ ls → (frzE env ls)[i]? = env[i]?
  | [], _, _ => rfl
  | j :: ls, i, h => by
    simp only [List.mem_cons, not_or] at h
    unfold frzE
    split
    · rw [List.getElem?_set_ne (Ne.symm h.1)]; exact frz_out h.2
    · exact frz_out h.2
theorem frz_val : ∀ {ls : List Nat} {i : Nat} {d : D}, env[i]? = some (.val d) → (frzE env ls)[i]? = some (.val d)
  | [], _, _, h => h
  | j :: ls, i, d, h => by
    unfold frzE
    have ih := frz_val (ls := ls) h
    split
    · rename_i e
      by_cases hj : j = i
      · subst hj; rw [ih] at e; cases e
      · rw [List.getElem?_set_ne hj]; exact ih
    · exact ih
theorem frz_own : ∀ {ls : List Nat} {i : Nat} {io : Bool} {xs : List D}, (frzE env ls)[i]? = some (.own io xs) → i ∉ ls ∧ env[i]? = some (.own io xs)
  | [], _, _, _, h => ⟨by simp, h⟩
  | j :: ls, i, io, xs, h => by
    unfold frzE at h
    split at h
    · rename_i e
      rcases set_cases h with ⟨_, q⟩ | ⟨q1, q2⟩
      · cases q
      · obtain ⟨h1, h2⟩ := frz_own q2
        exact ⟨by simp only [List.mem_cons, not_or]; exact ⟨q1, h1⟩, h2⟩
    · rename_i hn
      obtain ⟨h1, h2⟩ := frz_own h
      refine ⟨?_, h2⟩
      simp only [List.mem_cons, not_or]
      exact ⟨fun z => by subst z; exact hn _ _ h, h1⟩
theorem frz_tr (o : Ok G Z S H env σ) : ∀ ls : List Nat, ∃ S1, Tr G Z S H env σ S1 H (frzE env ls) σ ∧ (∀ i ∈ ls, ∀ io xs, env[i]? = some (.own io xs) → (frzE env ls)[i]? = some (.val (.lst xs)) ∧ ∀ a, σ[i]? = some (some (.ref a)) → S1 a) ∧
    ∀ b, S1 b → S b ∨ ∃ i ∈ ls, ∃ io xs, env[i]? = some (.own io xs) ∧ σ[i]? = some (some (.ref b))
  | [] => ⟨S, Tr.refl o, fun i h => by simp at h, fun b h => .inl h⟩
  | j :: ls => by
    obtain ⟨S1, t, h1, h2⟩ := frz_tr o ls
    cases hj : (frzE env ls)[j]? with
    | none =>
      refine ⟨S1, by unfold frzE; rw [hj]; exact t, fun i hi io xs e => ?_, fun b hb => (h2 b hb).imp_right fun ⟨i, a, r⟩ => ⟨i, List.mem_cons_of_mem _ a, r⟩⟩
      unfold frzE; rw [hj]
      rcases List.mem_cons.mp hi with rfl | hi
      · by_cases m : i ∈ ls
        · exact h1 i m io xs e
        · rw [frz_out m, e] at hj; cases hj
      · exact h1 i hi io xs e
    | some sv =>
      cases sv with
      | own io0 ys =>
        obtain ⟨m, ej⟩ := frz_own hj
        obtain ⟨a, vs, q1, q2, q3, q4⟩ := o.own j io0 ys ej
        have ft := Tr.freeze t.ok hj q1
        refine ⟨_, by unfold frzE; rw [hj]; exact t.trans ft, fun i hi io xs e => ?_, fun b hb => ?_⟩
        · unfold frzE; rw [hj]
          rcases List.mem_cons.mp hi with rfl | hi
          · rw [ej] at e; cases e
            have hl : i < (frzE env ls).length := (List.getElem?_eq_some_iff.mp hj).1
            exact ⟨List.getElem?_set_self hl, fun a' ha => .inr (by rw [q1] at ha; cases ha; rfl)⟩
          · obtain ⟨g1, g2⟩ := h1 i hi io xs e
            have ne : j ≠ i := fun z => by subst z; exact m hi
            exact ⟨by rw [List.getElem?_set_ne ne]; exact g1, fun a' ha => .inl (g2 a' ha)⟩
        · rcases hb with hb | hb
          · exact (h2 b hb).imp_right fun ⟨i, a, r⟩ => ⟨i, List.mem_cons_of_mem _ a, r⟩
          · subst hb; exact .inr ⟨j, List.mem_cons_self, io0, ys, ej, q1⟩
      | none =>
        refine ⟨S1, by unfold frzE; rw [hj]; exact t, fun i hi io xs e => ?_, fun b hb => (h2 b hb).imp_right fun ⟨i, a, r⟩ => ⟨i, List.mem_cons_of_mem _ a, r⟩⟩
        unfold frzE; rw [hj]
        rcases List.mem_cons.mp hi with rfl | hi
        · by_cases m : i ∈ ls
          · exact h1 i m io xs e
          · rw [frz_out m, e] at hj; cases hj
        · exact h1 i hi io xs e
      | val d =>
        refine ⟨S1, by unfold frzE; rw [hj]; exact t, fun i hi io xs e => ?_, fun b hb => (h2 b hb).imp_right fun ⟨i, a, r⟩ => ⟨i, List.mem_cons_of_mem _ a, r⟩⟩
        unfold frzE; rw [hj]
        rcases List.mem_cons.mp hi with rfl | hi
        · by_cases m : i ∈ ls
          · exact h1 i m io xs e
          · rw [frz_out m, e] at hj; cases hj
        · exact h1 i hi io xs e
theorem lend_av {ls0 : List Nat} (k : ∀ a, S a → S1 a) (hv : ∀ (i : Nat) (io : Bool) (xs : List D), env[i]? = some (.own io xs) → i ∈ ls0 → ∀ v, σ[i]? = some (some v) → Rp G S1 H (.lst xs) v) : ∀ (ios : List Bool) (avs : List AV) (vs : List V), (∀ i ∈ (lendL env ios avs).2, i ∈ ls0) → AvRp G S H σ avs vs → AvRp G S1 H σ (lendL env ios avs).1 vs := by
  have kk : ∀ a, S a → S1 a ∧ ∀ ob, H a = some ob → H a = some ob := fun a s => ⟨k a s, fun _ e => e⟩
  have base : ∀ {avs : List AV} {vs : List V}, AvRp G S H σ avs vs → AvRp G S1 H σ avs vs := by
    intro avs vs r
    induction r with
    | nil => exact .nil
    | val h _ ih => exact .val (h.keep kk) ih
    | ref h _ ih => exact .ref h ih
  intro ios
  induction ios with
  | nil =>
    intro avs vs _ ra
    have e : lendL env [] avs = (avs, []) := by cases avs <;> simp [lendL]
    rw [e]; exact base ra
  | cons b ios ih =>
    intro avs vs hm ra
    cases ra with
    | nil => cases b <;> exact .nil
    | val h t => cases b <;> exact .val (h.keep kk) (ih _ _ hm t)
    | @ref i v as vs h t =>
      cases b with
      | true => exact .ref h (ih _ _ hm t)
      | false =>
        cases e : env[i]? with
        | none =>
          have q : lendL env (false :: ios) (.ref i :: as) = (.ref i :: (lendL env ios as).1, (lendL env ios as).2) := by simp [lendL, e]
          rw [q] at hm ⊢
          exact .ref h (ih _ _ hm t)
        | some sv =>
          cases sv with
          | own io xs =>
            have q : lendL env (false :: ios) (.ref i :: as) = (.val (.lst xs) :: (lendL env ios as).1, i :: (lendL env ios as).2) := by simp [lendL, e]
            rw [q] at hm ⊢
            exact .val (hv i io xs e (hm i List.mem_cons_self) _ h) (ih _ _ (fun j hj => hm j (List.mem_cons_of_mem _ hj)) t)
          | none =>
            have q : lendL env (false :: ios) (.ref i :: as) = (.ref i :: (lendL env ios as).1, (lendL env ios as).2) := by simp [lendL, e]
            rw [q] at hm ⊢
            exact .ref h (ih _ _ hm t)
          | val d =>
            have q : lendL env (false :: ios) (.ref i :: as) = (.ref i :: (lendL env ios as).1, (lendL env ios as).2) := by simp [lendL, e]
            rw [q] at hm ⊢
            exact .ref h (ih _ _ hm t)
def tupR : SV → Bool
  | .val d => tupD d
  | .own _ xs => tupDs xs
  | .none => false
def chkE (ls : List Nat) : Nat → Env → Bool
  | _, [] => true
  | k, s :: r => (match s with
    | .own _ ys => ls.contains k || tupDs ys
    | _ => true) && chkE ls (k + 1) r
theorem chkE_at {ls : List Nat} : ∀ {e : Env} {k i : Nat} {io : Bool} {ys : List D}, chkE ls k e = true → e[i]? = some (.own io ys) → k + i ∉ ls → tupDs ys = true
  | [], _, _, _, _, _, h, _ => by simp at h
  | s :: r, k, 0, io, ys, c, h, n => by
    have : s = .own io ys := by simpa using h
    subst this
    simp only [chkE, Bool.and_eq_true, Bool.or_eq_true, List.contains_iff_mem] at c
    exact c.1.resolve_left (by simpa using n)
  | s :: r, k, i + 1, io, ys, c, h, n => by
    simp only [chkE, Bool.and_eq_true] at c
    exact chkE_at c.2 (by simpa using h) (by rw [show k + 1 + i = k + (i + 1) by omega]; exact n)
def callW (np : Nat) (F : Fn) (avs : List AV) (ls : List Nat) : M SV := fun env => match callF np F avs (frzE env ls) with
  | .ok r e => if tupR r && chkE ls 0 e then .ok r (restE env e ls) else .ok r e
  | .exc x e => .exc x e
  | .stuck => .stuck
def callN (np : Nat) (F : Fn) (avs : List AV) : List Nat → M SV
  | [] => callF np F avs
  | i :: ls => callW np F avs (i :: ls)
theorem callN_eq {np : Nat} {F : Fn} {avs : List AV} : ∀ ls : List Nat, callN np F avs ls env = callW np F avs ls env
  | [] => by
    show callF np F avs env = callW np F avs [] env
    unfold callW
    have e : frzE env [] = env := rfl
    rw [e]
    cases callF np F avs env <;> simp [restE]
  | i :: ls => rfl
def callL (ios : List Bool) (np : Nat) (F : Fn) (avs : List AV) : M SV := fun env => callN np F (lendL env ios avs).1 (lendL env ios avs).2 env
theorem bring_val : ∀ {avs : List AV} {outs : List SV} {i : Nat} {d : D}, (bring env avs outs)[i]? = some (.val d) → env[i]? = some (.val d) := by
  intro avs outs
  fun_induction bring env avs outs with
  | case1 i r io' xs s io ys e =>
    intro j d h
    rcases set_cases h with ⟨_, q⟩ | ⟨_, q⟩
    · cases q
    · exact q
  | case2 => exact fun h => h
  | case3 _ _ _ _ ih => exact fun h => ih h
  | case4 => exact fun h => h
/-- the lent lists are the caller's own again -/
theorem Tr.unlend {ls : List Nat} (o : Ok G Z S H env σ) (t0 : Tr G Z S H env σ S1 H (frzE env ls) σ) (hs : ∀ i ∈ ls, ∀ (io : Bool) (xs : List D), env[i]? = some (.own io xs) → (frzE env ls)[i]? = some (.val (.lst xs)) ∧ ∀ a, σ[i]? = some (some (.ref a)) → S1 a)
    (hb : ∀ b, S1 b → S b ∨ ∃ i ∈ ls, ∃ io xs, env[i]? = some (.own io xs) ∧ σ[i]? = some (some (.ref b))) (hl : ∀ i ∈ ls, ∃ io xs, env[i]? = some (.own io xs)) {e : Env} (t : Tr G Z S1 H (frzE env ls) σ S' H' e σ) (c : chkE ls 0 e = true) (hv : ∀ (i : Nat) (d : D), e[i]? = some (.val d) → (frzE env ls)[i]? = some (.val d)) :
    Tr G Z S H env σ (fun b => S' b ∧ ∀ i ∈ ls, σ[i]? ≠ some (some (.ref b))) H' (restE env e ls) σ := by
  have own1 : ∀ a, Own (frzE env ls) σ a → Own env σ a := fun a ⟨i, io, xs, h1, h2⟩ => ⟨i, io, xs, (frz_own h1).2, h2⟩
  have lentO : ∀ i ∈ ls, ∀ a, σ[i]? = some (some (.ref a)) → Own env σ a := fun i hi a ha => let ⟨io, xs, e⟩ := hl i hi; ⟨i, io, xs, e, ha⟩
  have lentS : ∀ i ∈ ls, ∀ a, σ[i]? = some (some (.ref a)) → S1 a := fun i hi a ha => let ⟨io, xs, e⟩ := hl i hi; (hs i hi io xs e).2 a ha
  have up : ∀ a, S a → S' a ∧ ∀ i ∈ ls, σ[i]? ≠ some (some (.ref a)) := fun a s => ⟨t.ext.sub a (t0.ext.sub a s), fun i hi z => (o.notS (lentO i hi a z)).1 s⟩
  have kk : ∀ a, S a → (S' a ∧ ∀ i ∈ ls, σ[i]? ≠ some (some (.ref a))) ∧ ∀ ob, H a = some ob → H' a = some ob := fun a s => ⟨up a s, ((t0.trans t).keepS o a s).2⟩
  have kl : ∀ i ∈ ls, ∀ a, σ[i]? = some (some (.ref a)) → ∀ ob, H a = some ob → H' a = some ob := fun i hi a ha => (t.keepS t0.ok a (lentS i hi a ha)).2
  have oldV : ∀ {i : Nat} {d : D}, i ∉ ls → e[i]? = some (.val d) → env[i]? = some (.val d) := fun {i d} hi q => by rw [← frz_out hi]; exact hv i d q
  have eOwn : ∀ {i : Nat} {io : Bool} {xs : List D} {a : Addr}, e[i]? = some (.own io xs) → σ[i]? = some (some (.ref a)) → Own e σ a := fun {i io xs a} h1 h2 => ⟨i, io, xs, h1, h2⟩
  have mix : ∀ {i j : Nat} {io' : Bool} {ys : List D} {a : Addr}, i ∈ ls → σ[i]? = some (some (.ref a)) → e[j]? = some (.own io' ys) → σ[j]? = some (some (.ref a)) → False := fun {i j io' ys a} g1 h3 k2 h4 =>
    (t.ok.notS (eOwn k2 h4)).1 (t.ext.sub a (lentS i g1 a h3))
  refine ⟨⟨fun a ob q n nt => t.ext.keep a ob q (fun z => n (own1 a z)) nt, fun a q => t.ext.there a q, up, fun a z => ?_⟩, ⟨t.ok.tb, fun a z => t.ok.nt a z.1, fun a z => t.ok.tr a z.1, t.ok.old, ?_, fun i d q => ?_, fun i io xs q => ?_, fun i j io xs io' ys a h1 h2 h3 h4 => ?_, fun i xs a h1 h2 => ?_, fun i xs a h1 h2 => ?_⟩, fun a ⟨i, io, xs, h1, h2⟩ => ?_⟩
  · rcases t.ext.new a z.1 with y | y | y
    · rcases hb a y with y | ⟨i, hi, _, _, _, y⟩
      · exact .inl y
      · exact absurd y (z.2 i hi)
    · exact .inr (.inl y)
    · exact .inr (.inr (own1 a y))
  · rw [restE_len]; exact t.ok.len
  · rcases restE_cases q with ⟨g1, g2⟩ | ⟨g1, g2⟩
    · obtain ⟨io, xs, z⟩ := hl i g1
      have z2 := svAt_some g2.symm (by simp)
      rw [z] at z2; cases z2
    · obtain ⟨v, f1, f2⟩ := o.val i d (oldV g1 g2)
      exact ⟨v, f1, f2.keep kk⟩
  · rcases restE_cases q with ⟨g1, g2⟩ | ⟨g1, g2⟩
    · have z2 := svAt_some g2.symm (by simp)
      obtain ⟨a, ws, f1, f2, f3, f4⟩ := o.own i io xs z2
      exact ⟨a, ws, f1, kl i g1 a f1 _ f2, fun z => z.2 i g1 f1, f4.keep kk⟩
    · obtain ⟨a, ws, f1, f2, f3, f4⟩ := t.ok.own i io xs g2
      refine ⟨a, ws, f1, f2, fun z => f3 z.1, f4.less (fun b sb nl => ⟨sb, fun j hj z => ?_⟩) (chkE_at c g2 (by simpa using g1))⟩
      obtain ⟨io2, ys, ej⟩ := hl j hj
      obtain ⟨b', us, p1, p2, _⟩ := o.own j io2 ys ej
      rw [z] at p1; cases p1
      exact nl us (kl j hj b z _ p2)
  · rcases restE_cases h1 with ⟨g1, g2⟩ | ⟨g1, g2⟩ <;> rcases restE_cases h2 with ⟨k1, k2⟩ | ⟨k1, k2⟩
    · exact o.inj i j io xs io' ys a (svAt_some g2.symm (by simp)) (svAt_some k2.symm (by simp)) h3 h4
    · exact (mix g1 h3 k2 h4).elim
    · exact (mix k1 h4 g2 h3).elim
    · exact t.ok.inj i j io xs io' ys a g2 k2 h3 h4
  · rcases restE_cases h1 with ⟨g1, g2⟩ | ⟨g1, g2⟩
    · exact o.io i xs a (svAt_some g2.symm (by simp)) h2
    · exact t.ok.io i xs a g2 h2
  · rcases restE_cases h1 with ⟨g1, g2⟩ | ⟨g1, g2⟩
    · exact o.fr i xs a (svAt_some g2.symm (by simp)) h2
    · exact t.ok.fr i xs a g2 h2
  · rcases restE_cases h1 with ⟨g1, g2⟩ | ⟨g1, g2⟩
    · exact .inl ⟨i, io, xs, svAt_some g2.symm (by simp), h2⟩
    · rcases t.sub a (eOwn g2 h2) with z | z
      · exact .inl (own1 a z)
      · exact .inr z
theorem lend_own : ∀ {ios : List Bool} {avs : List AV}, ∀ i ∈ (lendL env ios avs).2, ∃ io xs, env[i]? = some (.own io xs) := by
  intro ios avs
  fun_induction lendL env ios avs with
  | case1 ios i r io xs e ih =>
    intro j hj
    rcases List.mem_cons.mp hj with rfl | hj
    · exact ⟨io, xs, e⟩
    · exact ih j hj
  | case2 ios i r hn ih => exact ih
  | case3 b ios v r hn ih => exact ih
  | case4 r => intro j hj; cases hj
  | case5 ios => intro j hj; cases hj
theorem call_postL {α : Type} {ios : List Bool} {np : Nat} {F : Fn} {avs : List AV} {vs : List V} {g : SV → M α} {K : α → Pr → Hp → Env → Prop} {Q : VK} (o : Ok G Z S H env σ) (r : AvRp G S H σ avs vs) (h : Post G Z W (bnd (callL ios np F avs) g env) S H env σ K)
    (fin : ∀ sv S' H' env' v, Tr G Z S H env σ S' H' env' σ → (∀ a, H a = none → H' a ≠ none → ¬ Own env' σ a) → RetRp G H S' H' sv v → Post G Z W (g sv env') S H env σ K → Q v H') : spOf G np F vs H Q (WE W σ) := by
  obtain ⟨S1, t0, h1, h2⟩ := frz_tr o (lendL env ios avs).2
  have r1 : AvRp G S1 H σ (lendL env ios avs).1 vs := lend_av (ls0 := (lendL env ios avs).2) t0.ext.sub (fun i io xs e hi v hv => by
    obtain ⟨u, f1, f2⟩ := t0.ok.val i _ (h1 i hi io xs e).1
    rw [hv] at f1; cases f1; exact f2) ios avs vs (fun i hi => hi) r
  unfold bnd callL at h
  rw [callN_eq] at h
  unfold callW at h
  have hl := lend_own (env := env) (ios := ios) (avs := avs)
  revert h1 h2 r1 t0 h hl
  generalize (lendL env ios avs).1 = avs1
  generalize (lendL env ios avs).2 = ls
  intro h t0 h1 h2 r1 hl
  unfold callF at h
  by_cases hc : (oneRef avs1 && decide (avs1.length = np)) = true
  · rw [if_pos hc] at h
    simp only [Bool.and_eq_true, decide_eq_true_eq] at hc
    cases hs : svsOf (frzE env ls) avs1 with
    | none => rw [hs] at h; exact h.elim
    | some svs =>
      rw [hs] at h
      obtain ⟨c1, c2, c3⟩ := call_in t0.ok hs hc.1 r1
      refine ⟨S1, svs, by rw [r1.len]; exact hc.2, c1, c2, ?_⟩
      cases eF : F svs with
      | stuck => simp only [eF] at h; exact h.elim
      | exc x outs =>
        simp only [eF] at h
        intro S' H' cls dd t rx
        obtain ⟨t1, t2⟩ := call_out t0.ok hs hc.1 r1 t
        exact h S' H' cls dd (t0.trans t1) rx
      | ok sv outs =>
        simp only [eF] at h
        intro S' H' v t rr
        obtain ⟨t1, t2⟩ := call_out t0.ok hs hc.1 r1 t
        have sub1 : ∀ a, Own (bring (frzE env ls) avs1 outs) σ a → Own env σ a := fun a z => by
          obtain ⟨i, io, xs, g1, g2⟩ := t2 a z
          exact ⟨i, io, xs, (frz_own g1).2, g2⟩
        split at h
        · rename_i hk
          simp only [Bool.and_eq_true] at hk
          have tu := Tr.unlend o t0 h1 h2 hl t1 hk.2 (fun i d q => bring_val q)
          refine fin sv _ H' _ v tu (fun a hn _ z => (tu.sub a z).elim (fun z => (o.notS z).2 hn) fun _ => ?_) ?_ h
          · obtain ⟨i, io, xs, g1, g2⟩ := z
            rcases restE_cases g1 with ⟨q1, q2⟩ | ⟨q1, q2⟩
            · exact (o.notS ⟨i, io, xs, svAt_some q2.symm (by simp), g2⟩).2 hn
            · exact (o.notS (sub1 a ⟨i, io, xs, q2, g2⟩)).2 hn
          · have less : ∀ a, S' a → (∀ xs, H' a ≠ some (.lst xs)) → S' a ∧ ∀ i ∈ ls, σ[i]? ≠ some (some (.ref a)) := fun a sa nl => ⟨sa, fun j hj z => by
              obtain ⟨io2, ys, ej⟩ := hl j hj
              obtain ⟨b', us, p1, p2, _⟩ := o.own j io2 ys ej
              rw [z] at p1; cases p1
              exact nl us ((t1.keepS t0.ok a ((h1 j hj io2 ys ej).2 a z)).2 _ p2)⟩
            cases sv with
            | none => exact rr.elim
            | val d => exact Rp.less less rr hk.1
            | own io ys =>
              obtain ⟨p, ws, q1, q2, q3, q4, q5⟩ := rr
              exact ⟨p, ws, q1, q2, q3, fun z => q4 z.1, q5.less less hk.1⟩
        · exact fin sv _ H' _ v (t0.trans t1) (fun a hn _ z => (o.notS (sub1 a z)).2 hn) rr h
  · rw [if_neg hc] at h; exact h.elim
def eCallL (ios : List Bool) (np : Nat) (F : Fn) (fa : M (List AV)) : M D := bnd fa fun avs => bnd (callL ios np F avs) fun r => lif (asVal r)
def uCallL (ios : List Bool) (np : Nat) (F : Fn) (fa : M (List AV)) : M SV := bnd fa fun avs => bnd (callL ios np F avs) fun r => lif (asU r)
theorem tCallL_of {ios : List Bool} {np : Nat} {F : Fn} {fa : M (List AV)} {Q : VK} {t : TA} (ht : ∀ σ H Q, tOfB G Z W fa σ H Q → t σ H Q) (h : tOf G Z W (eCallL ios np F fa) σ H Q) : tCallW (spOf G np F) W t σ H Q := by
  obtain ⟨S, env, o, q⟩ := h
  refine ht σ H _ (tOfB.go o (Post.bind q) fun avs S1 H1 env1 vs t1 rx q1 => ?_)
  refine call_postL t1.ok rx q1 fun sv S' H' env' v t ts rr q2 => ?_
  cases sv with
  | none => exact q2.elim
  | val d => exact q2 S' H' t v rr
  | own io xs =>
    obtain ⟨a, ws, ev, r0, r2, r3, r4⟩ := rr
    subst ev
    exact q2 _ H' (t.known (ts a r0 (by rw [r2]; simp)) r0 (by rw [r2]; simp) (fun ps z => by rw [r2] at z; cases z)) _ (.lst (.inr rfl) r2 (r4.keep fun b s => ⟨.inl s, fun _ z => z⟩))
theorem tCallLU_of {ios : List Bool} {np : Nat} {F : Fn} {fa : M (List AV)} {Q : VK} {t : TA} (ht : ∀ σ H Q, tOfB G Z W fa σ H Q → t σ H Q) (h : tOfU G Z W (uCallL ios np F fa) σ H Q) : tCallW (spOf G np F) W t σ H Q := by
  obtain ⟨S, env, o, q⟩ := h
  refine ht σ H _ (tOfB.go o (Post.bind q) fun avs S1 H1 env1 vs t1 rx q1 => ?_)
  refine call_postL t1.ok rx q1 fun sv S' H' env' v t ts rr q2 => ?_
  cases sv with
  | none => exact q2.elim
  | val d => exact q2 S' H' t v [] (.val rr .nil)
  | own io xs =>
    obtain ⟨a, ws, ev, r0, r2, r3, r4⟩ := rr
    subst ev
    have hn : H a = none := by
      cases e : H a with
      | none => rfl
      | some ob => exact absurd r0 (t1.ext.there a (by rw [e]; simp))
    exact q2 S' H' t _ [a] (.own r2 r3 (ts a r0 (by rw [r2]; simp)) hn r4 (by simp) .nil)
theorem se_callL {N : List Str} {sc : Scope} {k np : Nat} {x : Str} {F : Fn} {e : Expr} {es : List Expr} {ios : List Bool} {fa : M (List AV)} {p pos : Pos} (xo : XOk X N sc G k) (tk : Takes X W) (hF : FnAt X.prog X.w G X.base k x np F) (hg : Gl X x) (ha : PA X (e :: es) (tOfB G Z W fa))
    (hdb : (x == ("__debug__" : Str)) = false) (he : starEach (e :: es) X.env = (false, eval e X.env) :: starEach es X.env) (hpl : (backTo pos (starEach es X.env)).any (·.1) = false) :
    PE X (.Call (.Name x p) (e :: es) [] pos) (tOf G Z W (eCallL ios np F fa)) := by
  obtain ⟨f, fd, ps, hm, hk, hb, fn⟩ := hF.ex
  have fn' : FnG X.prog X.w X.K X.mg X.base k f fd ps (spOf G np F) := by rw [xo.K, xo.mg]; exact fn
  exact pe_imp (pe_callW fn' xo.room xo.guards hg (by rw [xo.mg]; exact hm) (by rw [xo.K]; exact hk) (by rw [xo.K]; exact hb) tk ha hdb he hpl) fun σ H Q h => tCallL_of (fun _ _ _ z => z) h
theorem su_callL {N : List Str} {sc : Scope} {k np : Nat} {x : Str} {F : Fn} {e : Expr} {es : List Expr} {ios : List Bool} {fa : M (List AV)} {p pos : Pos} (xo : XOk X N sc G k) (tk : Takes X W) (hF : FnAt X.prog X.w G X.base k x np F) (hg : Gl X x) (ha : PA X (e :: es) (tOfB G Z W fa))
    (hdb : (x == ("__debug__" : Str)) = false) (he : starEach (e :: es) X.env = (false, eval e X.env) :: starEach es X.env) (hpl : (backTo pos (starEach es X.env)).any (·.1) = false) :
    PE X (.Call (.Name x p) (e :: es) [] pos) (tOfU G Z W (uCallL ios np F fa)) := by
  obtain ⟨f, fd, ps, hm, hk, hb, fn⟩ := hF.ex
  have fn' : FnG X.prog X.w X.K X.mg X.base k f fd ps (spOf G np F) := by rw [xo.K, xo.mg]; exact fn
  exact pe_imp (pe_callW fn' xo.room xo.guards hg (by rw [xo.mg]; exact hm) (by rw [xo.K]; exact hk) (by rw [xo.K]; exact hb) tk ha hdb he hpl) fun σ H Q h => tCallLU_of (fun _ _ _ z => z) h
end
end PL

namespace PL
open PySem PySem.Spec PyProof.Rows L2
section
variable {G : Gx} {Z : Zx} {W : WX} {S S1 S' : Pr} {H H1 H' : Hp} {env env1 env' : Env} {σ : L2.St} {X : Cx}

/-! ### items of a sequence within a display -/
def seqAt (j : Nat) : M (List D) := fun env => match env[j]? with
  | some (.own _ xs) => .ok xs env
  | some (.val d) => (match seqB d with
    | some xs => .ok xs env
    | none => .stuck)
  | _ => .stuck
def eStar (f : M D) (g : M (List D)) : M (List D) := bnd f fun d => match seqB d with
  | some xs => bnd g fun ys => ret (xs ++ ys)
  | none => fun _ => .stuck
def eStarS (j : Nat) (g : M (List D)) : M (List D) := bnd (seqAt j) fun xs => bnd g fun ys => ret (xs ++ ys)
theorem sqB_or {K : PySem.W.Frag} {a : Addr} {vs : List V} : ∀ {b : Bool}, SqB K H b a vs → SqT K H a vs ∨ SqL K H a vs
  | true, h => .inr h
  | false, h => .inl h
theorem seqAt_post {α : Type} {j : Nat} {g : List D → M α} {K : α → Pr → Hp → Env → Prop} (o : Ok G Z S H env σ) (q : Post G Z W (bnd (seqAt j) g env) S H env σ K) : ∃ a vs xs, σ[j]? = some (some (.ref a)) ∧ (SqT G.K H a vs ∨ SqL G.K H a vs) ∧ RpL G S H xs vs ∧ Post G Z W (g xs env) S H env σ K := by
  unfold bnd seqAt at q
  cases e : env[j]? with
  | none => rw [e] at q; exact q.elim
  | some sv =>
    rw [e] at q
    cases sv with
    | none => exact q.elim
    | own io xs =>
      obtain ⟨a, vs, h1, h2, _, h4⟩ := o.own j _ _ e
      exact ⟨a, vs, _, h1, .inr (SqL.of h2), h4, q⟩
    | val d =>
      obtain ⟨v, h1, h2⟩ := o.val j _ e
      cases hs : seqB d with
      | none => simp only [hs] at q; exact q.elim
      | some xs =>
        simp only [hs] at q
        obtain ⟨b, a, vs, e1, st, l⟩ := h2.stB hs
        subst e1
        exact ⟨a, vs, xs, h1, sqB_or (st _ _ Kept.refl), l, q⟩
theorem sa_star {e : Expr} {es : List Expr} {f : M D} {g : M (List D)} {p : Pos} (hK : X.K = G.K) (h : PE X e (tOf G Z W f)) (t : PA X es (tOfA G Z W g)) : PA X (.Starred e p :: es) (tOfA G Z W (eStar f g)) :=
  pa_imp (StX.pa_star h t) fun σ H Q ⟨S, env, o, q⟩ => by
    refine tOf.go o (Post.bind q) fun d S1 H1 env1 x t1 rx q1 => ?_
    cases hs : seqB d with
    | some xs =>
      simp only [hs] at q1
      obtain ⟨b, a, vs, e1, st, l⟩ := rx.stB hs
      subst e1
      refine ⟨a, vs, rfl, by rw [hK]; exact sqB_or (st _ _ Kept.refl), tOfA.go t1.ok (Post.bind q1) fun ys S2 H2 env2 us t2 ry q2 => ?_⟩
      exact q2 S2 H2 (Tr.refl t2.ok) _ ((t2.rpl t1.ok l).append ry)
    | none => simp only [hs] at q1; exact q1.elim
theorem sa_starS {e : Expr} {es : List Expr} {j : Nat} {g : M (List D)} {p : Pos} (hK : X.K = G.K) (h : PE X e (tVar j)) (t : PA X es (tOfA G Z W g)) : PA X (.Starred e p :: es) (tOfA G Z W (eStarS j g)) :=
  pa_imp (StX.pa_star h t) fun σ H Q ⟨S, env, o, q⟩ => by
    unfold eStarS at q
    obtain ⟨a, vs, xs, h1, h2, h3, q1⟩ := seqAt_post o q
    refine ⟨_, h1, a, vs, rfl, by rw [hK]; exact h2, tOfA.go o (Post.bind q1) fun ys S2 H2 env2 us t2 ry q2 => ?_⟩
    exact q2 S2 H2 (Tr.refl t2.ok) _ ((t2.rpl o h3).append ry)

/-! ### list(range(n)), tuple(range(n)) -/
def rgLim (n : Int) : Bool := decide (-(2 ^ 62) ≤ n) && decide (n ≤ 16777216)
def gRgL : D → Option (List D)
  | .int n => if rgLim n then some (rngL 0 n.toNat) else none
  | _ => none
def fRgL (f : M D) : M (List D) := bnd f fun d => lif (gRgL d)
theorem rgV_rp : ∀ (n : Nat) (lo : Int), RpL G S H (rngL lo n) ((List.range n).map fun i => V.int (lo + (i : Nat)))
  | 0, _ => .nil
  | n + 1, lo => by
    rw [List.range_succ_eq_map, List.map_cons, List.map_map]
    refine .cons ?_ ?_
    · show Rp G S H (.int lo) (.int (lo + ((0 : Nat) : Int)))
      rw [show lo + ((0 : Nat) : Int) = lo by omega]
      exact .int lo
    · have h := rgV_rp n (lo + 1)
      have e : (fun i : Nat => V.int (lo + 1 + (i : Int))) = (fun i : Nat => V.int (lo + (i : Int))) ∘ Nat.succ := by
        funext i
        show V.int _ = V.int _
        congr 1
        rw [Nat.succ_eq_add_one]; omega
      rw [e] at h
      exact h
theorem rgOk_of {n : Int} (h : rgLim n = true) : RgOk 0 n := by
  unfold rgLim at h
  simp only [Bool.and_eq_true, decide_eq_true_eq] at h
  exact ⟨by omega, by omega, h.1, by omega, by omega⟩
theorem rgV_eq (n : Int) : rgV 0 n = (List.range n.toNat).map fun i => V.int (0 + (i : Nat)) := by
  unfold rgV
  rw [show n - 0 = n by omega]
theorem sf_listRg {a : Expr} {f : M D} {p p2 pos pos2 : Pos} (hc : X.calm = true) (hg : Gl X "list") (hm : X.mg "list" = none) (hg2 : Gl X "range") (hm2 : X.mg "range" = none) (h : PE X a (tOf G Z W f)) (na : starEach [a] X.env = (false, eval a X.env) :: starEach [] X.env) :
    PE X (.Call (.Name "list" p) [.Call (.Name "range" p2) [a] [] pos2] [] pos) (tOfF G Z W (fRgL f)) :=
  pe_imp (pe_listRg hc hg hm (prg_1 hg2 hm2 h na) rfl) fun σ H Q ⟨S, env, o, q⟩ => by
    refine tOf.go o (Post.bind q) fun d S1 H1 env1 x t1 rx q1 => ?_
    obtain ⟨ds, e, k⟩ := lif_post q1
    unfold gRgL at e
    split at e <;> try contradiction
    split at e <;> cases e
    rename_i hl
    cases rx
    refine ⟨_, rfl, rgOk_of hl, fun q' hq => ?_⟩
    rw [rgV_eq]
    exact newF t1 hq (rgV_rp _ _) fun S' H' t => k S' H' t
def eRgT (f : M D) : M D := bnd f fun d => lif ((gRgL d).map .tup)
theorem se_tupRg {a : Expr} {f : M D} {p p2 pos pos2 : Pos} (hc : X.calm = true) (hg : Gl X "tuple") (hm : X.mg "tuple" = none) (hg2 : Gl X "range") (hm2 : X.mg "range" = none) (h : PE X a (tOf G Z W f)) (na : starEach [a] X.env = (false, eval a X.env) :: starEach [] X.env) :
    PE X (.Call (.Name "tuple" p) [.Call (.Name "range" p2) [a] [] pos2] [] pos) (tOf G Z W (eRgT f)) :=
  pe_imp (pe_tupRg hc hg hm (prg_1 hg2 hm2 h na) rfl) fun σ H Q ⟨S, env, o, q⟩ => by
    refine tOf.go o (Post.bind q) fun d S1 H1 env1 x t1 rx q1 => ?_
    obtain ⟨ds, e, k⟩ := lif_post q1
    obtain ⟨es, e1, e2⟩ := Option.map_eq_some_iff.mp e
    subst e2
    unfold gRgL at e1
    split at e1 <;> try contradiction
    split at e1 <;> cases e1
    rename_i hl
    cases rx
    refine ⟨_, rfl, rgOk_of hl, fun q' hq => ?_⟩
    rw [rgV_eq]
    obtain ⟨t, r⟩ := Tr.newT t1.ok hq (rgV_rp (G := G) (S := S1) (H := H1) _ _)
    exact k _ _ t _ r
end
end PL

namespace PL
open PySem PySem.Spec PyProof.Rows L2
section
variable {G : Gx} {Z : Zx} {W : WX} {S S0 S1 S' : Pr} {H H0 H1 H' : Hp} {env env0 env1 env' : Env} {σ σ0 : L2.St} {X : Cx}

/-! ### names = values, some of them fresh lists, by way of a tuple -/
def asgU : Tg → SV → Env → Option Env
  | .nm i, sv, env => putU i sv env
  | t, .val d, env => asg t d env
  | _, _, _ => none
def asgUL : List Tg → List SV → Env → Option Env
  | [], [], env => some env
  | t :: ts, sv :: svs, env => (match asgU t sv env with
    | some e => asgUL ts svs e
    | none => none)
  | _, _, _ => none
theorem asgUL_len : ∀ {ts : List Tg} {svs : List SV} {env env' : Env}, asgUL ts svs env = some env' → svs.length = ts.length
  | [], [], _, _, _ => rfl
  | [], _ :: _, _, _, e => by simp [asgUL] at e
  | _ :: _, [], _, _, e => by simp [asgUL] at e
  | t :: ts, sv :: svs, env, env', e => by
    simp only [asgUL] at e
    split at e
    · simp [asgUL_len e]
    · cases e
def tOfGU (G : Gx) (Z : Zx) (t : Tg) : TG := fun v σ H Q => ∃ S0 H0 env0 σ0 S env sv svs vs as env', Ok G Z S0 H0 env0 σ0 ∧ Tr G Z S0 H0 env0 σ0 S H env σ ∧ URp G H0 S H (Own env σ) (sv :: svs) (v :: vs) as ∧ asgU t sv env = some env' ∧
  ∀ σ' as', Tr G Z S0 H0 env0 σ0 S H env' σ' → URp G H0 S H (Own env' σ') svs vs as' → Q σ' H
def tOfGsU (G : Gx) (Z : Zx) (ts : List Tg) : TGs := fun vs σ H Q => ∃ S0 H0 env0 σ0 S env svs as env', Ok G Z S0 H0 env0 σ0 ∧ Tr G Z S0 H0 env0 σ0 S H env σ ∧ URp G H0 S H (Own env σ) svs vs as ∧ asgUL ts svs env = some env' ∧
  ∀ σ', Tr G Z S0 H0 env0 σ0 S H env' σ' → Q σ' H
theorem sgu_name {i : Nat} {x : Str} {pos : Pos} (hN : X.N.Nodup) (hi : X.N[i]? = some x) (hx : Loc X.env.scope x) (hf : X.fn x = true ∨ X.env.scope.names.lookup x = some .local) : PG X (.Name x pos) (tOfGU G Z (.nm i)) :=
  pg_imp (pg_name hN hi hx hf) fun v σ H Q ⟨S0, H0, env0, σ0, S, env, sv, svs, vs, as, env', o, t, u, e, k⟩ => by
    simp only [asgU] at e
    obtain ⟨t2, as2, u2⟩ := u.put o t e
    exact k _ _ t2 u2
theorem sgu_tup {e : Expr} {ts : List Tg} (h : PG X e (tOfG G Z (.tp ts))) : PG X e (tOfGU G Z (.tp ts)) :=
  pg_imp h fun v σ H Q ⟨S0, H0, env0, σ0, S, env, sv, svs, vs, as, env', o, t, u, e, k⟩ => by
    cases sv with
    | none => simp [asgU] at e
    | own io xs => simp [asgU] at e
    | val d =>
      simp only [asgU] at e
      cases u with
      | val r un =>
        refine ⟨S, env, d, env', t.ok, r, e, fun σ' st => ?_⟩
        exact k σ' _ (t.trans st.tr) (un.move t.ok st.tr)
theorem sgu_nil : PGs X [] (tOfGsU G Z []) :=
  pgs_imp pgs_nil fun vs σ H Q ⟨S0, H0, env0, σ0, S, env, svs, as, env', o, t, u, e, k⟩ => by
    cases svs with
    | nil =>
      simp only [asgUL] at e
      cases e
      cases u
      exact ⟨rfl, k σ t⟩
    | cons a b => simp [asgUL] at e
theorem sgu_cons {e : Expr} {es : List Expr} {t : Tg} {ts : List Tg} (h1 : PG X e (tOfGU G Z t)) (h2 : PGs X es (tOfGsU G Z ts)) (hs : (assignEach (e :: es) X.env).map (·.2) = assign e X.env :: (assignEach es X.env).map (·.2)) : PGs X (e :: es) (tOfGsU G Z (t :: ts)) :=
  pgs_imp (pgs_cons h1 h2 hs) fun vs σ H Q ⟨S0, H0, env0, σ0, S, env, svs, as, env', o, t0, u, e, k⟩ => by
    cases svs with
    | nil => simp [asgUL] at e
    | cons sv svs =>
      simp only [asgUL] at e
      split at e
      · rename_i env1 e1
        have hv : ∃ v ws, vs = v :: ws := by
          cases u with
          | val _ u => exact ⟨_, _, rfl⟩
          | own _ _ _ _ _ _ u => exact ⟨_, _, rfl⟩
        obtain ⟨v, ws, rfl⟩ := hv
        refine ⟨v, ws, rfl, S0, H0, env0, σ0, S, env, sv, svs, ws, as, env1, o, t0, u, e1, fun σ1 as1 t1 u1 => ?_⟩
        exact ⟨S0, H0, env0, σ0, S, env1, svs, as1, env', o, t1, u1, e, k⟩
      · cases e
def sAsgU (ts : List Tg) (f : M (List SV)) : M O := bnd f fun svs env => if fits svs.length then (match asgUL ts svs env with
  | some env' => .ok .next env'
  | none => .stuck) else .stuck
theorem ss_asgU {es vs : List Expr} {ts : List Tg} {f : M (List SV)} {kt k2 : Nat} {pt p2 pos : Pos} (hc : X.calm = true) (hK : X.K = G.K) (he : PA X vs (tOfUA G Z W f)) (h : PGs X es (tOfGsU G Z ts)) (hn : (assignEach es X.env).length = ts.length) (hst : (assignEach es X.env).findIdx? (·.1) = none)
    (hs : swapsWithSole [.Tuple es kt pt] (.Tuple vs k2 p2) pos.line X.env = pure false) (hw : swappedStores [.Tuple es kt pt] (.Tuple vs k2 p2) X.env = pure none) :
    PS X (.Assign [.Tuple es kt pt] (.Tuple vs k2 p2) pos) (tOfS G Z W (sAsgU ts f)) :=
  ps_imp (ps_asg (pe_tup he) (pg_tup hc h hn hst) hs hw rfl) fun D σ H ⟨S, env, o, q⟩ => by
    refine ⟨S, env, o, q.bind0.mono fun svs S1 H1 env1 t1 q1 vs as u => ?_⟩
    have hl : vs.length = svs.length := by
      clear q1
      induction u with
      | nil => rfl
      | val _ _ ih => simp [ih]
      | own _ _ _ _ _ _ _ ih => simp [ih]
    split at q1
    · rename_i hz
      split at q1
      · rename_i env' e
        refine ⟨by rw [hl]; exact fits_line hz, fun p hp => ?_⟩
        have hnS : ¬ S1 p := fun z => t1.ok.tr p z hp
        have ta := Tr.alloc (ob := .tup vs) t1.ok hp False (.inl hnS) (fun ps z => by cases z)
        refine ⟨p, vs, rfl, by rw [hK]; exact .inl (.inl upd_same), by rw [hl, asgUL_len e], ?_⟩
        refine ⟨S, H, env, σ, _, env1, svs, as, env', o, t1.trans ta, u.move t1.ok ta, e, fun σ' t' => ?_⟩
        exact q1 _ _ _ t'
      · exact q1.elim
    · exact q1.elim

/-! ### del x[i] -/
def delO (j : Nat) (d : D) : M O := fun env => match env[j]?, d with
  | some (.own io xs), .int i => if decide (-(2 ^ 63) ≤ i) && decide (i < 2 ^ 63) then (match seqIndex? i xs.length with
    | some k => .ok .next (env.set j (.own io (xs.eraseIdx k)))
    | none => .stuck) else .stuck
  | _, _ => .stuck
def sDel (j : Nat) (fi : M D) : M O := bnd (chk j) fun _ => bnd fi (delO j)
theorem ss_del {j : Nat} {o i : Expr} {fi : M D} {tpos pos : Pos} (ho : PE X o (tVar j)) (hi : PE X i (tOf G Z W fi)) : PS X (.Delete [.Subscript o i tpos] pos) (tOfS G Z W (sDel j fi)) :=
  ps_imp (ps_delL ho hi) fun D σ H ⟨S, env, o, q⟩ => by
    obtain ⟨a, vs, c1, c2, q0⟩ := chk_post o q
    refine ⟨_, c1, ?_⟩
    refine tOf.go o q0.bindE fun d S1 H1 env1 v t1 rx q1 => ?_
    unfold delO at q1
    split at q1
    · rename_i io xs i e1
      split at q1
      · rename_i hb
        simp only [Bool.and_eq_true, decide_eq_true_eq] at hb
        split at q1
        · rename_i k hk
          obtain ⟨a', ws, f1, f2, f3, f4⟩ := t1.ok.own j io xs e1
          rw [c1] at f1; cases f1
          cases rx
          have t := Tr.chg t1.ok e1 c1 (f4.eraseIdx k)
          exact ⟨a, ws, i, k, rfl, rfl, f2, hb.1, hb.2, by rw [f4.length]; exact hk, q1 _ _ _ t⟩
        · exact q1.elim
      · exact q1.elim
    · exact q1.elim
/-- x.pop(i) of an own list -/
def popAtO (j : Nat) (d : D) : M D := fun env => match env[j]?, d with
  | some (.own io xs), .int i => if decide (-(2 ^ 63) ≤ i) && decide (i < 2 ^ 63) then (match seqIndex? i xs.length with
    | some k => (match xs[k]? with
      | some y => .ok y (env.set j (.own io (xs.eraseIdx k)))
      | none => .stuck)
    | none => .stuck) else .stuck
  | _, _ => .stuck
def ePopAt (j : Nat) (fi : M D) : M D := bnd (chk j) fun _ => bnd fi (popAtO j)
theorem chkP_post {α : Type} {j : Nat} {g : Unit → M α} {K : α → Pr → Hp → Env → Prop} (o : Ok G Z S H env σ) (q : Post G Z W (bnd (chk j) g env) S H env σ K) : ∃ a vs, σ[j]? = some (some (.ref a)) ∧ H a = some (.lst vs) ∧ Post G Z W (g () env) S H env σ K := by
  unfold bnd chk at q
  split at q
  · rename_i ho
    unfold isOwn at ho
    split at ho
    · rename_i io xs e1
      obtain ⟨a, vs, h1, h2, _, _⟩ := o.own j _ _ e1
      exact ⟨a, vs, h1, h2, q⟩
    · cases ho
  · exact q.elim
theorem se_popAt {j : Nat} {x : Str} {e : Expr} {fe : M D} {p1 apos cpos : Pos} (ho : PE X (.Name x p1) (tVar j)) (he : PE X e (tOf G Z W fe)) (hst : starEach (e :: []) X.env = (false, eval e X.env) :: starEach [] X.env) (hline : (apos.endLine == cpos.line) = true) :
    PE X (.Call (.Attribute (.Name x p1) "pop" apos) [e] [] cpos) (tOf G Z W (ePopAt j fe)) :=
  pe_imp (pe_bm PySem.F.plainAttrs_list PySem.F.slot_list_pop PySem.F.type_list_pop mt_popAt ho (pa_cons he pa_nil hst) rfl (by rw [hst]; rfl) hline hst rfl) fun σ H Q ⟨S, env, o, q⟩ => by
    obtain ⟨a, vs, c1, c2, q0⟩ := chkP_post o q
    refine ⟨_, c1, .inl ⟨rfl, _, SqL.of c2⟩, ?_⟩
    refine tOf.go o (Post.bind q0) fun d S1 H1 env1 v t1 rx q1 => ?_
    unfold popAtO at q1
    split at q1
    · rename_i io xs i e1
      split at q1
      · rename_i hb
        simp only [Bool.and_eq_true, decide_eq_true_eq] at hb
        split at q1
        · rename_i k hk
          split at q1
          · rename_i y hy
            obtain ⟨a', ws, f1, f2, f3, f4⟩ := t1.ok.own j io xs e1
            rw [c1] at f1; cases f1
            cases rx
            obtain ⟨u, g1, g2⟩ := f4.get hy
            have t := Tr.chg t1.ok e1 c1 (f4.eraseIdx k)
            exact ⟨a, ws, i, k, u, rfl, rfl, f2, hb.1, hb.2, by rw [f4.length]; exact hk, g1, q1 _ _ t u (t.rp t1.ok g2)⟩
          · exact q1.elim
        · exact q1.elim
      · exact q1.elim
    · exact q1.elim
/-- x[i], y[j] = a, b of own lists -/
def sSetTwo (i j : Nat) (fi fj ft : M D) : M O := bnd ft fun d => match d with
  | .tup [d1, d2] => bnd (chk i) fun _ => bnd fi fun k1 => bnd (setIx i k1 d1) fun _ => bnd (chk j) fun _ => bnd fj fun k2 => setIx j k2 d2
  | _ => sStuck
theorem ss_setTwo {i j : Nat} {o1 i1 o2 i2 e : Expr} {fi fj ft : M D} {p1 p2 pt pos : Pos} {kt : Nat} (hc : X.calm = true) (hK : X.K = G.K) (ho1 : PE X o1 (tVar i)) (hi1 : PE X i1 (tOf G Z W fi)) (ho2 : PE X o2 (tVar j)) (hi2 : PE X i2 (tOf G Z W fj)) (he : PE X e (tOf G Z W ft))
    (ha1 : ∀ v, assign (.Subscript o1 i1 p1) X.env v = (do
      let ov ← holding [v] (eval o1 X.env)
      let iv ← holding [v, ov] (eval i1 X.env)
      standAt p1
      holding [v, ov, iv] (setItem ov iv v)
      release [v, ov, iv] []))
    (ha2 : ∀ v, assign (.Subscript o2 i2 p2) X.env v = (do
      let ov ← holding [v] (eval o2 X.env)
      let iv ← holding [v, ov] (eval i2 X.env)
      standAt p2
      holding [v, ov, iv] (setItem ov iv v)
      release [v, ov, iv] []))
    (hs : swapsWithSole [.Tuple [.Subscript o1 i1 p1, .Subscript o2 i2 p2] kt pt] e pos.line X.env = pure false) (hw : swappedStores [.Tuple [.Subscript o1 i1 p1, .Subscript o2 i2 p2] kt pt] e X.env = pure none) :
    PS X (.Assign [.Tuple [.Subscript o1 i1 p1, .Subscript o2 i2 p2] kt pt] e pos) (tOfS G Z W (sSetTwo i j fi fj ft)) :=
  ps_imp (ps_asg he (pg_tup hc (pgs_cons (pg_sub ho1 hi1 set_list ha1) (pgs_cons (pg_sub ho2 hi2 set_list ha2) pgs_nil))) hs hw rfl) fun D σ H ⟨S, env, o, q⟩ => by
    refine tOf.go o q.bindE fun d S1 H1 env1 v t1 rx q1 => ?_
    split at q1
    · rename_i d1 d2
      cases rx with
      | tup s p l =>
        cases l with
        | cons r1 l => cases l with
          | cons r2 l =>
            cases l
            refine ⟨_, _, rfl, by rw [hK]; exact p, rfl, _, _, rfl, ?_⟩
            obtain ⟨a, vs, c1, c2, q2⟩ := chk_post t1.ok q1
            refine ⟨_, c1, ?_⟩
            refine tOf.go t1.ok q2.bindE fun k1 S2 H2 env2 y t2 ry q3 => ?_
            refine setIx_post t2.ok c1 ry (t2.rp t1.ok r1) q3.bind fun S3 H3 env3 t3 q4 => ?_
            refine ⟨_, _, rfl, ?_⟩
            obtain ⟨a', vs', c1', c2', q5⟩ := chk_post t3.ok q4
            refine ⟨_, c1', ?_⟩
            refine tOf.go t3.ok q5.bindE fun k2 S4 H4 env4 y2 t4 ry2 q6 => ?_
            exact setIx_post t4.ok c1' ry2 (t4.rp t3.ok (t3.rp t2.ok (t2.rp t1.ok r2))) q6 fun S' H' env' t h => ⟨rfl, h⟩
    · exact q1.elim
end
end PL

namespace PL
open PySem PySem.Spec PyProof.Rows L2
section
variable {G : Gx} {Z : Zx} {W : WX} {S S0 S1 S' : Pr} {H H0 H1 H' : Hp} {env env0 env1 env' : Env} {σ σ0 : L2.St} {X : Cx}

/-! ### own lists read by a comprehension stay own -/
def ownL (env : Env) (ls : List Nat) : List Nat := ls.filter fun i => isOwn env[i]?
def restV (ls : List Nat) : Nat → Env → Env → Env
  | k, s :: r, s' :: r' => (if ls.contains k then s else match s with
    | .own _ _ => s'
    | s => s) :: restV ls (k + 1) r r'
  | _, _, e => e
def chkR (ls : List Nat) : Nat → Env → Env → Bool
  | k, s :: r, s' :: r' => (ls.contains k || (match s with
    | .own _ _ => (match s' with
      | .own _ ys => tupDs ys
      | _ => false)
    | _ => true)) && chkR ls (k + 1) r r'
  | _, _, _ => true
def lendM1 (ls : List Nat) (f : M (List D)) : M (List D) := fun env => match f (frzE env ls) with
  | .ok r e => if tupDs r && chkR ls 0 env e then .ok r (restV ls 0 env e) else .ok r e
  | .exc x e => .exc x e
  | .stuck => .stuck
def lendM (ls : List Nat) (f : M (List D)) : M (List D) := fun env => match ownL env ls with
  | [] => f env
  | j :: js => lendM1 (j :: js) f env
theorem restV_len {ls : List Nat} : ∀ {env e : Env} {k : Nat}, env.length = e.length → (restV ls k env e).length = e.length
  | [], [], _, _ => rfl
  | [], _ :: _, _, h => by simp at h
  | _ :: _, [], _, h => by simp at h
  | s :: r, s' :: r', k, h => by
    unfold restV
    simp only [List.length_cons]
    rw [restV_len (by simpa using h)]
theorem restV_at {ls : List Nat} : ∀ {env e : Env} {k i : Nat} {s : SV}, env.length = e.length → (restV ls k env e)[i]? = some s →
    (k + i ∈ ls ∧ env[i]? = some s) ∨ (k + i ∉ ls ∧ env[i]? = some s ∧ ∀ io xs, s ≠ .own io xs) ∨ (k + i ∉ ls ∧ (∃ io xs, env[i]? = some (.own io xs)) ∧ e[i]? = some s)
  | [], [], _, _, _, _, h => by simp [restV] at h
  | [], _ :: _, _, _, _, hl, _ => by simp at hl
  | _ :: _, [], _, _, _, hl, _ => by simp at hl
  | s :: r, s' :: r', k, 0, sv, hl, h => by
    unfold restV at h
    simp only [List.getElem?_cons_zero, Option.some.injEq] at h
    by_cases hc : ls.contains k = true
    · rw [if_pos hc] at h
      subst h
      exact .inl ⟨by simpa using hc, rfl⟩
    · rw [if_neg hc] at h
      have hn : k + 0 ∉ ls := by simpa using hc
      cases s with
      | own io xs => exact .inr (.inr ⟨hn, ⟨io, xs, rfl⟩, by simpa using h⟩)
      | none => subst h; exact .inr (.inl ⟨hn, rfl, fun _ _ z => by cases z⟩)
      | val d => subst h; exact .inr (.inl ⟨hn, rfl, fun _ _ z => by cases z⟩)
  | s :: r, s' :: r', k, i + 1, sv, hl, h => by
    unfold restV at h
    have := restV_at (k := k + 1) (i := i) (by simpa using hl) (by simpa using h)
    rw [show k + 1 + i = k + (i + 1) by omega] at this
    simpa using this
theorem chkR_at {ls : List Nat} : ∀ {env e : Env} {k i : Nat} {io : Bool} {xs : List D} {s : SV}, chkR ls k env e = true → k + i ∉ ls → env[i]? = some (.own io xs) → e[i]? = some s → ∃ io' ys, s = .own io' ys ∧ tupDs ys = true
  | [], _, _, _, _, _, _, _, _, h, _ => by simp at h
  | _ :: _, [], _, _, _, _, _, _, _, _, h => by simp at h
  | s :: r, s' :: r', k, 0, io, xs, sv, c, hn, h1, h2 => by
    simp only [chkR, Bool.and_eq_true, Bool.or_eq_true] at c
    have e1 : s = .own io xs := by simpa using h1
    have e2 : s' = sv := by simpa using h2
    subst e1 e2
    rcases c.1 with c | c
    · exact absurd (by simpa using c) hn
    · cases s' with
      | own io' ys => exact ⟨io', ys, rfl, c⟩
      | none => cases c
      | val d => cases c
  | s :: r, s' :: r', k, i + 1, io, xs, sv, c, hn, h1, h2 => by
    simp only [chkR, Bool.and_eq_true] at c
    exact chkR_at c.2 (by rw [show k + 1 + i = k + (i + 1) by omega]; exact hn) (by simpa using h1) (by simpa using h2)
theorem Tr.unlendV {ls : List Nat} (o : Ok G Z S H env σ) (t0 : Tr G Z S H env σ S1 H (frzE env ls) σ) (hs : ∀ i ∈ ls, ∀ (io : Bool) (xs : List D), env[i]? = some (.own io xs) → (frzE env ls)[i]? = some (.val (.lst xs)) ∧ ∀ a, σ[i]? = some (some (.ref a)) → S1 a)
    (hb : ∀ b, S1 b → S b ∨ ∃ i ∈ ls, ∃ io xs, env[i]? = some (.own io xs) ∧ σ[i]? = some (some (.ref b))) (hl : ∀ i ∈ ls, ∃ io xs, env[i]? = some (.own io xs)) {e : Env} (t : Tr G Z S1 H (frzE env ls) σ S' H' e σ) (c : chkR ls 0 env e = true) :
    Tr G Z S H env σ (fun b => S' b ∧ ∀ i ∈ ls, σ[i]? ≠ some (some (.ref b))) H' (restV ls 0 env e) σ := by
  have elen : env.length = e.length := by rw [← o.len, t.ok.len]
  have own1 : ∀ a, Own (frzE env ls) σ a → Own env σ a := fun a ⟨i, io, xs, h1, h2⟩ => ⟨i, io, xs, (frz_own h1).2, h2⟩
  have lentO : ∀ i ∈ ls, ∀ a, σ[i]? = some (some (.ref a)) → Own env σ a := fun i hi a ha => let ⟨io, xs, e⟩ := hl i hi; ⟨i, io, xs, e, ha⟩
  have lentS : ∀ i ∈ ls, ∀ a, σ[i]? = some (some (.ref a)) → S1 a := fun i hi a ha => let ⟨io, xs, e⟩ := hl i hi; (hs i hi io xs e).2 a ha
  have up : ∀ a, S a → S' a ∧ ∀ i ∈ ls, σ[i]? ≠ some (some (.ref a)) := fun a s => ⟨t.ext.sub a (t0.ext.sub a s), fun i hi z => (o.notS (lentO i hi a z)).1 s⟩
  have kk : ∀ a, S a → (S' a ∧ ∀ i ∈ ls, σ[i]? ≠ some (some (.ref a))) ∧ ∀ ob, H a = some ob → H' a = some ob := fun a s => ⟨up a s, ((t0.trans t).keepS o a s).2⟩
  have kl : ∀ i ∈ ls, ∀ a, σ[i]? = some (some (.ref a)) → ∀ ob, H a = some ob → H' a = some ob := fun i hi a ha => (t.keepS t0.ok a (lentS i hi a ha)).2
  have eOwn : ∀ {i : Nat} {io : Bool} {xs : List D} {a : Addr}, e[i]? = some (.own io xs) → σ[i]? = some (some (.ref a)) → Own e σ a := fun {i io xs a} h1 h2 => ⟨i, io, xs, h1, h2⟩
  have mix : ∀ {i j : Nat} {io' : Bool} {ys : List D} {a : Addr}, i ∈ ls → σ[i]? = some (some (.ref a)) → e[j]? = some (.own io' ys) → σ[j]? = some (some (.ref a)) → False := fun {i j io' ys a} g1 h3 k2 h4 =>
    (t.ok.notS (eOwn k2 h4)).1 (t.ext.sub a (lentS i g1 a h3))
  have split : ∀ {i : Nat} {io : Bool} {xs : List D}, (restV ls 0 env e)[i]? = some (.own io xs) → (i ∈ ls ∧ env[i]? = some (.own io xs)) ∨ (i ∉ ls ∧ e[i]? = some (.own io xs) ∧ tupDs xs = true) := fun {i io xs} q => by
    rcases restV_at elen q with ⟨g1, g2⟩ | ⟨g1, g2, g3⟩ | ⟨g1, ⟨io0, xs0, g2⟩, g3⟩
    · exact .inl ⟨by simpa using g1, g2⟩
    · exact absurd rfl (g3 io xs)
    · obtain ⟨io', ys, e1, e2⟩ := chkR_at c g1 g2 g3
      cases e1
      exact .inr ⟨by simpa using g1, g3, e2⟩
  refine ⟨⟨fun a ob q n nt => t.ext.keep a ob q (fun z => n (own1 a z)) nt, fun a q => t.ext.there a q, up, fun a z => ?_⟩, ⟨t.ok.tb, fun a z => t.ok.nt a z.1, fun a z => t.ok.tr a z.1, t.ok.old, ?_, fun i d q => ?_, fun i io xs q => ?_, fun i j io xs io' ys a h1 h2 h3 h4 => ?_, fun i xs a h1 h2 => ?_, fun i xs a h1 h2 => ?_⟩, fun a ⟨i, io, xs, h1, h2⟩ => ?_⟩
  · rcases t.ext.new a z.1 with y | y | y
    · rcases hb a y with y | ⟨i, hi, _, _, _, y⟩
      · exact .inl y
      · exact absurd y (z.2 i hi)
    · exact .inr (.inl y)
    · exact .inr (.inr (own1 a y))
  · rw [restV_len elen]; exact t.ok.len
  · rcases restV_at elen q with ⟨g1, g2⟩ | ⟨g1, g2, g3⟩ | ⟨g1, ⟨io0, xs0, g2⟩, g3⟩
    · obtain ⟨io, xs, z⟩ := hl i (by simpa using g1)
      rw [z] at g2; cases g2
    · obtain ⟨v, f1, f2⟩ := o.val i d g2
      exact ⟨v, f1, f2.keep kk⟩
    · obtain ⟨io', ys, e1, _⟩ := chkR_at c g1 g2 g3
      cases e1
  · rcases split q with ⟨g1, g2⟩ | ⟨g1, g2, g3⟩
    · obtain ⟨a, ws, f1, f2, f3, f4⟩ := o.own i io xs g2
      exact ⟨a, ws, f1, kl i g1 a f1 _ f2, fun z => z.2 i g1 f1, f4.keep kk⟩
    · obtain ⟨a, ws, f1, f2, f3, f4⟩ := t.ok.own i io xs g2
      refine ⟨a, ws, f1, f2, fun z => f3 z.1, f4.less (fun b sb nl => ⟨sb, fun j hj z => ?_⟩) g3⟩
      obtain ⟨io2, ys, ej⟩ := hl j hj
      obtain ⟨b', us, p1, p2, _⟩ := o.own j io2 ys ej
      rw [z] at p1; cases p1
      exact nl us (kl j hj b z _ p2)
  · rcases split h1 with ⟨g1, g2⟩ | ⟨g1, g2, _⟩ <;> rcases split h2 with ⟨k1, k2⟩ | ⟨k1, k2, _⟩
    · exact o.inj i j io xs io' ys a g2 k2 h3 h4
    · exact (mix g1 h3 k2 h4).elim
    · exact (mix k1 h4 g2 h3).elim
    · exact t.ok.inj i j io xs io' ys a g2 k2 h3 h4
  · rcases split h1 with ⟨g1, g2⟩ | ⟨g1, g2, _⟩
    · exact o.io i xs a g2 h2
    · exact t.ok.io i xs a g2 h2
  · rcases split h1 with ⟨g1, g2⟩ | ⟨g1, g2, _⟩
    · exact o.fr i xs a g2 h2
    · exact t.ok.fr i xs a g2 h2
  · rcases split h1 with ⟨g1, g2⟩ | ⟨g1, g2, _⟩
    · exact .inl ⟨i, io, xs, g2, h2⟩
    · rcases t.sub a (eOwn g2 h2) with z | z
      · exact .inl (own1 a z)
      · exact .inr z
theorem lend_of {f : M (List D)} (ls0 : List Nat) {Q : VK} (h0 : tOfF G Z W (lendM ls0 f) σ H Q) : tOfF G Z W f σ H Q := by
    obtain ⟨S, env, o, q⟩ := h0
    unfold lendM at q
    split at q
    · exact ⟨S, env, o, q⟩
    · rename_i j js hL
      revert q
      have hl : ∀ i ∈ j :: js, ∃ io xs, env[i]? = some (.own io xs) := fun i hi => by
        rw [← hL] at hi
        unfold ownL at hi
        have := (List.mem_filter.mp hi).2
        unfold isOwn at this
        split at this
        · rename_i io xs e1; exact ⟨io, xs, e1⟩
        · cases this
      generalize j :: js = ls at hl
      intro q
      obtain ⟨S1, t0, h1, h2⟩ := frz_tr o ls
      refine ⟨S1, frzE env ls, t0.ok, ?_⟩
      unfold lendM1 at q
      cases hf : f (frzE env ls) with
      | stuck => rw [hf] at q; exact q.elim
      | exc x e => rw [hf] at q; exact fun S' H' cls dd t rx => q S' H' cls dd (t0.trans t) rx
      | ok r e =>
        rw [hf] at q
        intro S' H' t a vs a1 a2 a3 a4 a5
        by_cases hc : (tupDs r && chkR ls 0 env e) = true
        · simp only [hc, if_true] at q
          simp only [Bool.and_eq_true] at hc
          have tu := Tr.unlendV o t0 h1 h2 hl t hc.2
          refine q _ H' tu a vs a1 (fun z => a2 z.1) (fun z => ?_) a4 (a5.less (fun b sb nl => ⟨sb, fun i hi z => ?_⟩) hc.1)
          · rcases tu.sub a z with z | z
            · exact (o.notS z).2 a4
            · exact a3 (by
                obtain ⟨i, io, xs, g1, g2⟩ := ‹Own (restV ls 0 env e) σ a›
                have elen : env.length = e.length := by rw [← o.len, t.ok.len]
                rcases restV_at elen g1 with ⟨q1, q2⟩ | ⟨q1, q2, q3⟩ | ⟨q1, _, q3⟩
                · exact absurd a4 (o.notS ⟨i, io, xs, q2, g2⟩).2
                · exact absurd rfl (q3 io xs)
                · exact ⟨i, io, xs, q3, g2⟩)
          · obtain ⟨io2, ys, ej⟩ := hl i hi
            obtain ⟨b', us, p1, p2, _⟩ := o.own i io2 ys ej
            rw [z] at p1; cases p1
            exact nl us ((t.keepS t0.ok b ((h1 i hi io2 ys ej).2 b z)).2 _ p2)
        · simp only [hc] at q
          exact q S' H' (t0.trans t) a vs a1 a2 a3 a4 a5
def lendC (ls : List Nat) (f : M (List D)) : M (List D) := match ls with
  | [] => f
  | j :: js => lendM (j :: js) f
theorem lendC_of {f : M (List D)} : ∀ (ls : List Nat) {Q : VK}, tOfF G Z W (lendC ls f) σ H Q → tOfF G Z W f σ H Q
  | [], _, h => h
  | _ :: _, _, h => lend_of _ h
theorem sf_lend {e : Expr} {f : M (List D)} (ls : List Nat) (h : PE X e (tOfF G Z W f)) : PE X e (tOfF G Z W (lendC ls f)) := pe_imp h fun σ H Q q => lendC_of ls q
theorem ss_setLcL {i : Nat} {y : Str} {py : Pos} {elt tg iter : Expr} {ifs : List Expr} {scope : Scope} {own : List (Str × Nat)} {pos spos : Pos} {f : M (List D)} {t : Tg} {c : M Bool} {e : M D} (ls : List Nat) (hc : X.calm = true) (hN : X.N.Nodup) (hy : X.N[i]? = some y) (hyl : X.env.scope.names.lookup y = some .local)
    (hsw : swapsWith (.ListComp elt [⟨tg, iter, ifs, 0⟩] scope pos) (some (.Name y py)) spos.line X.env = pure true) (hi : PI X tg iter (tOfI G Z W f)) (ok : BlkOk X.N X.env.scope scope own)
    (hg : ∀ (s : Shared) (H : Hp) (C : Addr) (cl : List (Str × Addr)) (fp : List Addr), PG (X.blk s H scope (compEnvC scope cl C X.env) fp) tg (tOfG G Z t)) (ht : ∀ (s : Shared) (H : Hp) (C : Addr) (cl : List (Str × Addr)) (fp : List Addr), PTs (X.blk s H scope (compEnvC scope cl C X.env) fp) ifs (tOfT G Z WF c))
    (he : ∀ (s : Shared) (H : Hp) (C : Addr) (cl : List (Str × Addr)) (fp : List Addr), PE (X.blk s H scope (compEnvC scope cl C X.env) fp) elt (tOf G Z WF e)) (hs : ∀ x, foldedSetIterable iter X.env x = pure x) (sub : ∀ j ∈ t.vars, j ∈ own.map (·.2)) :
    PS X (.Assign [.Name y py] (.ListComp elt [⟨tg, iter, ifs, 0⟩] scope pos) spos) (tOfS G Z W (sSetO i (lendC ls (eLc f (own.map (·.2)) t c e)))) :=
  ps_imp (ps_setLc hc hN hy hyl hsw hi ok hg ht he hs) fun D σ H h => by
    have h2 : tAsg (tOfF G Z W (lendC ls (eLc f (own.map (·.2)) t c e))) (gName i) D σ H := asg_setO h
    exact lc_of sub (lendC_of ls h2)
end
end PL

namespace PL
open PySem PySem.Spec PyProof.Rows L2
/-! ### xs[::-1] of lists and tuples -/
section
variable {prog : Program} {w : World} {A : Around} {E : Value → Shared → Prop} {s : Shared}
theorem sliceApplied_rev {sl : Addr} {vl vu vs : Value} {n : Nat} {Q : Int × Int × Nat → Shared → Prop} (hs : s.heap.IsSliceOf sl vl vu vs) (pl : IsPart vl none) (pu : IsPart vu none) (ps : IsPart vs (some (-1)))
    (h : Q ((n : Int) - 1, -1, n) s) : wpAny (model prog w) A (Builtin.Slice.sliceApplied (.ref sl) (pure (n : Int))) Q E s := by
  obtain ⟨os, hos, hcs, hds⟩ := id hs
  unfold Builtin.Slice.sliceApplied Builtin.Slice.sliceFields
  refine wpAny_bind (wpAny_bind (wpAny_field hos hds (x := vl) rfl (wpAny_bind (wpAny_field hos hds (x := vu) rfl (wpAny_bind (wpAny_field hos hds (x := vs) rfl (wpAny_pure ?_)))))))
  refine wpAny_bind (HT.slicePart_ ps ?_)
  show wpAny _ _ (if ((-1 : Int) == 0) = true then _ else _) _ _ s
  rw [if_neg (by decide)]
  refine wpAny_bind (HT.slicePart_ pl (wpAny_bind (HT.slicePart_ pu (wpAny_bind (wpAny_pure ?_)))))
  have e1 : Builtin.Slice.sliceAdjust none none (-1) (n : Int) = ((n : Int) - 1, -1) := rfl
  show wpAny _ _ (match Builtin.Slice.sliceAdjust none none (-1) (n : Int) with | (lo, hi) => pure (lo, (-1 : Int), Builtin.Slice.slicePlaces lo hi (-1))) _ _ s
  rw [e1]
  have e2 : Builtin.Slice.slicePlaces ((n : Int) - 1) (-1) (-1) = n := by
    unfold Builtin.Slice.slicePlaces
    rw [if_neg (by decide)]
    split
    · rw [show (-(-1) : Int) = 1 by decide, Int.ediv_one]; omega
    · omega
  show wpAny _ _ (pure ((n : Int) - 1, (-1 : Int), Builtin.Slice.slicePlaces ((n : Int) - 1) (-1) (-1))) _ _ s
  rw [e2]
  exact wpAny_pure h
theorem pick_rev (xs : Array Value) : ((List.range xs.size).filterMap fun (m : Nat) => xs[((xs.size : Int) - 1 + (m : Int) * -1).toNat]?).toArray = xs.toList.reverse.toArray := by
  have e : (List.range xs.size).filterMap (fun (m : Nat) => xs[((xs.size : Int) - 1 + (m : Int) * -1).toNat]?) = ((List.range xs.size).map fun k => xs.size - 1 - k).filterMap fun k => xs[k]? := by
    rw [List.filterMap_map]
    congr 1
    funext m
    show xs[((xs.size : Int) - 1 + (m : Int) * -1).toNat]? = xs[xs.size - 1 - m]?
    have : ((xs.size : Int) - 1 + (m : Int) * -1).toNat = xs.size - 1 - m := by omega
    rw [this]
  rw [e, PySem.W.krv_range, List.filterMap_reverse, PySem.W.krv_all]
theorem getItem_tuple_rev {t sl : Addr} {items : Array Value} {vl vu vs : Value} {Q : Value → Shared → Prop} (ht : IsTup s.heap t items) (hs : s.heap.IsSliceOf sl vl vu vs) (pl : IsPart vl none) (pu : IsPart vu none) (ps : IsPart vs (some (-1)))
    (h : Q (.ref s.heap.objs.size) { s with heap := s.heap.push { cls := .type "tuple", data := .seq items.toList.reverse.toArray } })
    (hsz : items.size ≤ sizeLine) : wpAny (model prog w) A (getItem (.ref t) (.ref sl)) Q E s := by
  have htake : sizeOk (.seq items.toList.reverse.toArray) := by
    show items.toList.reverse.toArray.size ≤ sizeLine
    rw [List.size_toArray, List.length_reverse, Array.length_toList]
    exact hsz
  obtain ⟨os, hos, hcs, hds⟩ := id hs
  have hTs : s.TypeIs (.ref sl) "slice" := ⟨os, hos, hcs⟩
  unfold getItem
  try with_reducible refine wpAny_holding ?_
  first | refine wpAny_bind (wpAny_pure ?_) | skip
  refine wpAny_bind (wpAny_sequenceKey ht.typeIs (by decide) ?_)
  refine wpAny_bind (wpAny_callSpecial?_slot (name := Str.ofString "__getitem__") ht.typeIs PyProof.Rows.slot_tuple_getitem
    (wpAny_call_entry PyProof.Rows.slot_tuple_getitem ht.typeIs entry_tuple_getitem ?_ (args_tuple_getitem _ _)))
  show wpAny _ _ (Builtin.Tuple.tupleItemsOf (.ref t) >>= _) _ _ s
  refine wpAny_bind (tupleItemsOf_ ht ?_)
  refine wpAny_bind (wpAny_typeOf hTs ?_)
  rw [if_pos (by decide)]
  refine wpAny_bind (sliceApplied_rev hs pl pu ps ?_)
  have hno : ¬ ((((items.size : Int) - 1) == 0 && (-1 : Int) == 1 && items.size == items.size) = true) := by
    intro q
    rw [Bool.and_eq_true, Bool.and_eq_true] at q
    exact absurd q.1.2 (by decide)
  show wpAny _ _ (if (((items.size : Int) - 1) == 0 && (-1 : Int) == 1 && items.size == items.size) = true then _ else _) _ _ s
  rw [if_neg hno, pick_rev]
  first
    | exact wpAny_bind (m := Builtin.Tuple.tupleExact _) (wpAny_newObj_type (wpAny_pure ⟨_, rfl, wpAny_pure h⟩) htake)
    | exact wpAny_bind (m := Builtin.Tuple.tupleExact _) (wpAny_newObj_type (wpAny_bind (wpAny_pure (wpAny_pure ⟨_, rfl, wpAny_pure h⟩))) htake)
    | exact wpAny_bind (wpAny_bind (m := Builtin.Tuple.tupleExact _) (wpAny_newObj_type (wpAny_pure (wpAny_pure ⟨_, rfl, wpAny_pure h⟩)) htake))
    | exact wpAny_bind (wpAny_bind (m := Builtin.Tuple.tupleExact _) (wpAny_newObj_type (wpAny_pure ⟨_, rfl, wpAny_pure h⟩) htake))
end
section
variable {X : Cx} {G : Gx} {Z : Zx} {W : WX} {S : Pr} {H : Hp}
def tRevA (K : PySem.W.Frag) (te : TE) : TE := fun σ H Q => te σ H fun x H1 => ∃ a xs, x = .ref a ∧ ((SqL K H1 a xs ∧ ∀ p, H1 p = none → Q (.ref p) (upd H1 p (.lst xs.reverse))) ∨ (SqT K H1 a xs ∧ ∀ p, H1 p = none → Q (.ref p) (upd H1 p (.tup xs.reverse))))
theorem pe_revA {e : Expr} {te : TE} {k : Nat} {p1 p2 p3 pos : Pos} (he : PE X e te) : PE X (.Subscript e (.Slice none none (some (.UnaryOp .USub (.Constant (.int 1) k p1) p2)) p3) pos) (tRevA X.K te) := by
  refine ⟨fun pins s σ H Q I h => ?_⟩
  refine Subscript_ (thn (he.run pins s σ H _ I h) fun v s1 ⟨x, H1, I1, r1, q1⟩ => ?_)
  obtain ⟨a, xs, ex, q⟩ := q1
  subst ex
  cases r1
  have hst : PO X (some (.UnaryOp .USub (.Constant (.int 1) k p1) p2)) (tPart (tUn (rU fun i => .int (-i)) (tC (.int 1)))) := po_some (pe_un un_neg pe_int)
  refine wpAny_Slice (thn (po_none.run pins s1 σ H1 (fun o H2 => o = none ∧ H2 = H1) I1 ⟨rfl, rfl⟩) fun vl s2 ⟨l, H2, I2, pl, el, e2⟩ => ?_)
  subst el e2
  refine thn (po_none.run pins s2 σ H2 (fun o H3 => o = none ∧ H3 = H2) I2 ⟨rfl, rfl⟩) fun vu s3 ⟨u, H3, I3, pu, eu, e3⟩ => ?_
  subst eu e3
  refine thn (hst.run pins s3 σ H3 (fun o H4 => o = some (-1) ∧ H4 = H3) I3 ⟨1, rfl, -1, rfl, rfl, rfl⟩) fun vs s4 ⟨o, H4, I4, ps, eo, e4⟩ => ?_
  subst eo e4
  have I5 : Inv X pins σ H4 { s4 with heap := s4.heap.push { cls := .type "slice", data := .fields #[vl, vu, vs] } } := I4.kept (t' := s4.toks) fun b ob q => Heap.get?_push_of_some _ q
  show wpAny (model X.prog X.w) X.A (subscriptTail e (.Slice none none (some (.UnaryOp .USub (.Constant (.int 1) k p1) p2)) p3) (.ref a) (.ref s4.heap.objs.size)) (EP X pins σ Q) X.xe { s4 with heap := s4.heap.push { cls := .type "slice", data := .fields #[vl, vu, vs] } }
  rcases q with ⟨hx, q⟩ | ⟨hx, q⟩
  · obtain ⟨its, r, ht, hz⟩ := I5.list hx
    have hlen := r.length
    refine tail_any (ops := [.ref a, .ref s4.heap.objs.size]) ht.isList.typeIs (PySem.slot_list_getitem.lookup) ?_ (by with_unfolding_all rfl)
    refine wpAny_getItem_list_slice ht.isList (Heap.IsSliceOf.new _ vl vu vs) pl pu ps (by decide) ?_ (by rw [List.size_toArray]; omega)
    rw [PySem.W.krv_pick]
    refine ⟨.ref _, _, I5.laid (t' := s4.toks) (o := .lst xs.reverse) (fun b ob q => Heap.get?_push_of_some _ q) (Nat.le_refl _) ?_, rfl, q _ (I5.hok.fresh (Nat.le_refl _))⟩
    exact ⟨by rw [List.length_reverse]; exact hz, _, 0, r.reverse, Heap.get?_push_size _ rfl⟩
  · obtain ⟨its, r, ht, hz⟩ := I5.tuple hx
    have hlen := r.length
    refine tail_any (ops := [.ref a, .ref s4.heap.objs.size]) ht.typeIs PyProof.Rows.slot_tuple_getitem.lookup ?_ (by with_unfolding_all rfl)
    refine getItem_tuple_rev ht (Heap.IsSliceOf.new _ vl vu vs) pl pu ps ?_ (by rw [List.size_toArray]; omega)
    refine ⟨.ref _, _, I5.laid (t' := s4.toks) (o := .tup xs.reverse) (fun b ob q => Heap.get?_push_of_some _ q) (Nat.le_refl _) ?_, rfl, q _ (I5.hok.fresh (Nat.le_refl _))⟩
    exact ⟨by rw [List.length_reverse]; exact hz, _, r.reverse, IsTup.new _ _⟩
def gRev : D → Option D
  | .lst xs => some (.lst xs.reverse)
  | .rol xs => some (.lst xs.reverse)
  | .tup xs => some (.tup xs.reverse)
  | _ => none
theorem RpL.rev {ds : List D} {vs : List V} (h : RpL G S H ds vs) : RpL G S H ds.reverse vs.reverse := by
  induction ds generalizing vs with
  | nil => cases h; exact .nil
  | cons d ds ih =>
    cases h with
    | cons h1 h2 =>
      rw [List.reverse_cons, List.reverse_cons]
      exact (ih h2).append (.cons h1 .nil)
theorem se_rev {a : Expr} {f : M D} {k : Nat} {p1 p2 p3 pos : Pos} (hK : X.K = G.K) (h : PE X a (tOf G Z W f)) :
    PE X (.Subscript a (.Slice none none (some (.UnaryOp .USub (.Constant (.int 1) k p1) p2)) p3) pos) (tOf G Z W (eUn gRev f)) :=
  pe_imp (pe_revA h) fun σ H Q ⟨S, env, o, q⟩ => by
    refine tOf.go o (Post.bind q) fun d S1 H1 env1 v t1 rx q1 => ?_
    obtain ⟨c, e, k⟩ := lif_post q1
    rw [hK]
    cases rx <;> simp only [gRev] at e <;> try contradiction
    · rename_i s q l
      cases e
      exact ⟨_, _, rfl, .inr ⟨q, fun p hp => fin_T t1.ok (fun S' H' t _ => k S' H' t) hp l.rev⟩⟩
    · rename_i s q l
      cases e
      exact ⟨_, _, rfl, .inl ⟨SqL.of q, fun p hp => fin_L t1.ok (fun S' H' t _ => k S' H' t) hp l.rev⟩⟩
    · rename_i s q l
      cases e
      exact ⟨_, _, rfl, .inl ⟨q, fun p hp => fin_L t1.ok (fun S' H' t _ => k S' H' t) hp l.rev⟩⟩
/-! ### a if c else b as a test -/
def tIfM (c f g : M Bool) : M Bool := bnd c fun b => if b then f else g
theorem st_ifx {c a b : Expr} {fc f g : M Bool} {pos : Pos} (hc : PT X c (tOfT G Z W fc)) (ha : PT X a (tOfT G Z W f)) (hb : PT X b (tOfT G Z W g)) : PT X (.IfExp c a b pos) (tOfT G Z W (tIfM fc f g)) := by
  refine ⟨fun pins s σ H Q I ⟨S, env, o, q⟩ => isTrue_IfExp ?_⟩
  have t0 : tOfT G Z W fc σ H fun c H1 => (if c = true then tOfT G Z W f σ H1 Q else tOfT G Z W g σ H1 Q) := by
    refine tOfT.go o (Post.bind q) fun c S1 H1 env1 t1 q1 => ?_
    cases c with
    | true => exact ⟨S1, env1, t1.ok, q1⟩
    | false => exact ⟨S1, env1, t1.ok, q1⟩
  refine thn (hc.run pins s σ H _ I t0) fun c s1 ⟨H1, I1, q1⟩ => ?_
  cases c with
  | true => exact ha.run pins s1 σ H1 Q I1 q1
  | false => exact hb.run pins s1 σ H1 Q I1 q1
end
end PL

set_option maxHeartbeats 4000000
namespace PL
open PySem PySem.Spec PyProof.Rows L2

/-! ### an own exception class whose __init__ says super().__init__(text), then self.f = f -/
/-- what the module's objects say of it -/
structure VcK (prog : Program) (K : PySem.W.Frag) (C : Addr) (f : Str) (B newId initId : String) (bmB : List Value) (fI cc cda : Addr) : Prop where
  init : PySem.W.findIn K (.ref C) "__init__" = some (some (.ref fI))
  q : PySem.W.excInitIn K C bmB newId = true
  isfn : PySem.W.isFn K (.ref fI) = true
  subB : PySem.W.subIn K (.ref C) (.type B) = some true
  sup : PySem.W.ks_superIn K C C "__init__" = some (some (.builtin initId))
  ov : PySem.W.excOver K C bmB = true
  sa : PySem.W.findIn K (.ref C) "__setattr__" = some (some (.builtin "object.__setattr__"))
  tk : PySem.W.takerIn K C f = some none
  dict : PySem.W.hasDictIn K C = true
  tp : PySem.W.nsIn K cStatics "thirdparty.any" = some none
  cls : ∃ cd, PySem.W.clsIn K C = some cd
  mro : PySem.W.mroIn K C (.ref C) = some true
  cell : ∃ cl cld csl, K.lookup cc = some ⟨cl, cld, .cell (some (.ref C)), csl⟩
  code : ∃ ccl cdd vs ccs file tf, K.lookup cda = some ⟨ccl, cdd, .fields vs, ccs⟩ ∧ vs[2]? = some (.str file tf) ∧ ((prog.main.file : Str) == file) = true
  func : ∃ oc od osl nm qual params scope dV kV doc pm an ct p0 p1 p2 p3 p4 p5 p6 p7 p8 p9 m j ar,
    K.lookup fI = some ⟨oc, od, .func (PySem.W.ksFn nm qual params [.Expr (.Call (.Attribute (.Call (.Name "super" p0) [] [] p1) "__init__" p2) [.Constant (.str m) j p3] [] p4) p5, .Assign [.Attribute (.Name "self" p6) f p7] (.Name f p8) p9] scope dV kV doc pm an (.ref cda) ct cc), osl⟩ ∧
    PySem.W.codeIn K (.ref cda) qual = true ∧ (params.posonlyargs ++ params.args).head? = some ar ∧ ar.arg = ("self" : Str) ∧
    (∀ (a v : Value), bindArgs (PySem.W.ksFn nm qual params [.Expr (.Call (.Attribute (.Call (.Name "super" p0) [] [] p1) "__init__" p2) [.Constant (.str m) j p3] [] p4) p5, .Assign [.Attribute (.Name "self" p6) f p7] (.Name f p8) p9] scope dV kV doc pm an (.ref cda) ct cc) ⟨[a, v], []⟩ = pure [(("self" : Str), a), (f, v)]) ∧
    (∀ x ∈ scope.names, x.2 ≠ .cell) ∧ scope.names.lookup ("super" : Str) = some .globalImplicit ∧ scope.names.lookup ("__class__" : Str) = some .free ∧ scope.names.lookup ("self" : Str) = some .local ∧ scope.names.lookup f = some .local ∧
    scope.isCoroutine = false ∧ scope.isGenerator = false ∧ scope.kind = .function ∧ (p2.endLine == p4.line) = true
  fself : f ≠ ("self" : Str)
  fdb : (f == ("__debug__" : Str)) = false
  top : (prog.main.scope.names.lookup ("super" : Str)).isSome = false
  base : ExcBaseFacts B newId initId bmB
  kxs : PySem.W.KxsFacts B initId
  sto : StoreFacts B bmB "object.__setattr__" "object"

theorem call_shape {o : Expr} {name m : Str} {p2 p3 p4 : Pos} {j : Nat} {env : PySem.Env} (hl : (p2.endLine == p4.line) = true) : eval (.Call (.Attribute o name p2) [.Constant (.str m) j p3] [] p4) env = (do
      let ov ← attributeBase o name env (eval o env)
      standAt p2.atName
      let (f, first) ← holding [ov] (getMethod ov name (do return (← importBound o env).getD true))
      callWith p4 f first (backTo p4 (starEach [.Constant (.str m) j p3] env)) []) := by
  have hpos : methodCallPos true o env p2 p4 = pure p4 := by unfold methodCallPos; simp [hl]
  rw [arm_eval_Call]
  refine congrArg _ (funext fun ov => congrArg _ (funext fun _ => ?_))
  unfold methodCall
  refine congrArg _ (funext fun fx => ?_)
  show (methodCallPos true o env p2 p4 >>= _) = _
  rw [hpos]
  rfl
section
open PySem.W PySem.Calls
variable {prog : Program} {w : World} {A : Around} {E : Value → Shared → Prop} {s : Shared} {K : Frag} {C : Addr} {f : Str} {B newId initId : String} {bmB : List Value} {fI cc cda : Addr} {mg mb : Str → Option Value}
theorem lookup2 {f : Str} {a v : Value} (hf : f ≠ ("self" : Str)) : ([(("self" : Str), a), (f, v)] : List (Str × Value)).reverse.lookup ("self" : Str) = some a ∧ ([(("self" : Str), a), (f, v)] : List (Str × Value)).reverse.lookup f = some v := by
  have h1 : (("self" : Str) == f) = false := by simpa using fun z => hf z.symm
  refine ⟨?_, ?_⟩
  · show List.lookup ("self" : Str) [(f, v), ("self", a)] = some a
    rw [List.lookup_cons, h1]
    simp [List.lookup]
  · show List.lookup f [(f, v), ("self", a)] = some v
    simp [List.lookup]
theorem val_call (T : VcK prog K C f B newId initId bmB fI cc cda) (X : K.In s.heap) (hg : s.heap.Ns mainGlobals mg) (hb : s.heap.Ns builtinsNs mb) (hbb : ∀ x : Str, x ≠ "__name__" → mb x = bootBuiltins x) (hs : mg "super" = none) (hlim : s.heap.NoLimit)
    (hdp : (A.under (.builtin "type.__call__" ⟨[.ref C, v], []⟩)).depth < recursionLimit) {Q : Value → Shared → Prop}
    (hq : ∀ e dx t h' tk, (∀ b o, s.heap.get? b = some o → h'.get? b = some o) → s.heap.objs.size ≤ e → s.heap.objs.size ≤ dx → dx ≠ e → h'.get? e = some (excObj C t (some dx) .none) → h'.Ns1 dx (fun y => if y = f then some v else none) → Q (.ref e) { s with heap := h', toks := tk }) :
    wpAny (model prog w) A (call (.ref C) [v]) Q E s := by
  obtain ⟨h, g, d, t, os⟩ := s
  obtain ⟨nm0, N', qn, bs, bm, hdct, sn, sub, ab, col, dd, k0, k1, k2, k3, k5, hC, hT⟩ := excInit_of X T.q
  obtain ⟨oI, hoI, hcI⟩ : ∃ oI, h.get? fI = some oI ∧ oI.cls = .type "function" := by
    obtain ⟨o, ho, hc⟩ := Option.map_eq_some_iff.mp (show (K.lookup fI).map (·.cls) = some (.type "function") from beq_iff_eq.mp T.isfn)
    exact ⟨o, X _ _ ho, hc⟩
  obtain ⟨oc, od, osl, nm, qual, params, scope, dV, kV, doc, pm, an, ct, p0, p1, p2, p3, p4, p5, p6, p7, p8, p9, m, j, ar, lk, hcd, har, hars, hbind, ncell, ks1, ks2, ks3, ks4, kco, kgen, kkind, kpos⟩ := T.func
  obtain ⟨cd, hcls⟩ := T.cls
  obtain ⟨cl, cld, csl, hcell⟩ := T.cell
  obtain ⟨ccl, cdd, vs, ccs, file, tf, hcode, hvs, hfile⟩ := T.code
  refine wpAny_call (PX.call_own T.base hT hC (looks_findIn X T.init) (fun self => exc_bind hoI hcI self) (by show 1 ≤ sizeLine; rw [sizeLine_eq]; omega) ?_)
  have k1 : ∀ b o, h.get? b = some o → ((h.push (kdv_tup [v])).push (PX.excO C h.objs.size)).get? b = some o := fun b o e => Heap.get?_push_of_some _ (Heap.get?_push_of_some _ e)
  have X1 : K.In ((h.push (kdv_tup [v])).push (PX.excO C h.objs.size)) := X.keeps k1
  have lk2 := lookup2 (a := .ref (h.objs.size + 1)) (v := v) T.fself
  refine ks_codeAny_call_defAt (binds := [(("self" : Str), .ref (h.objs.size + 1)), (f, v)]) hdp (X1 _ _ lk) rfl (hlim.keeps k1) (codeRec_of X1 hcd) rfl (BindsTo.of_eq (hbind _ _)) ncell (fun x hx => ?_) (fun h₀ hns kp => ?_) kco kgen kkind
  · rcases List.mem_cons.mp hx with rfl | hx
    · exact ks3
    · rcases List.mem_cons.mp hx with rfl | hx
      · exact ks4
      · cases hx
  have sz : ((h.push (kdv_tup [v])).push (PX.excO C h.objs.size)).objs.size = h.objs.size + 2 := by rw [Heap.size_push, Heap.size_push]
  have F0 : Fr h ((h.push (kdv_tup [v])).push (PX.excO C h.objs.size)).objs.size h₀ _ := ⟨hns, fun b o e => kp b o (k1 b o e), by rw [sz]; omega⟩
  have nh : ∀ n, h.objs.size ≤ n → h.get? n = none := fun n hn => by
    cases z : h.get? n with
    | none => rfl
    | some o => exact absurd (Heap.lt_size z) (Nat.not_lt.mpr hn)
  have N0 : News h ((h.push (kdv_tup [v])).push (PX.excO C h.objs.size)).objs.size h₀ [(h.objs.size + 1, excObj C h.objs.size none .none), (h.objs.size, excTup [v])] := fun p hp => by
    rcases List.mem_cons.mp hp with rfl | hp
    · refine ⟨kp _ _ (by have := Heap.get?_push_size (h.push (kdv_tup [v])) (o := PX.excO C h.objs.size) rfl; rw [Heap.size_push] at this; exact this), by rw [sz]; show h.objs.size + 1 ≠ h.objs.size + 2; omega, nh _ (Nat.le_succ _)⟩
    · rcases List.mem_cons.mp hp with rfl | hp
      · exact ⟨kp _ _ (Heap.get?_push_of_some _ (Heap.get?_push_size h rfl)), by rw [sz]; show h.objs.size ≠ h.objs.size + 2; omega, nh _ (Nat.le_refl _)⟩
      · cases hp
  have X0 : K.In h₀ := X1.keeps kp
  have kk : ∀ b o, h.get? b = some o → h₀.get? b = some o := F0.keep
  have hD1 : ∃ oD, h₀.get? C = some oD ∧ oD.data = .cls cd := by
    unfold clsIn at hcls
    split at hcls
    · rename_i c d' cd' sl ho
      cases hcls
      exact ⟨_, X0 _ _ ho, rfl⟩
    · cases hcls
  obtain ⟨oD, hD1, hD2⟩ := hD1
  have Ie : InstAt h₀ (h.objs.size + 1) (excObj C h.objs.size none .none) C none := InstAt.of_exc0 N0 List.mem_cons_self
  refine ks_wpAt_execs_cons (ks_wpAt_Expr_any (ks_wpAt_MethodCall (he := call_shape kpos) ?_) (hi := by show ((scope.kind == ScopeKind.module) && _) = false; rw [kkind]; rfl))
  refine ks_wpAt_super_base (env := ksEnv qual scope ((h.push (kdv_tup [v])).push (PX.excO C h.objs.size)).objs.size fI (.ref cda) cc) ks1 ks2 (by decide) rfl (X0 _ _ lk) rfl har rfl (X0 _ _ hcode) rfl hvs hfile T.top ?_
  refine ks_loadName_global kkind ks1 (loadGlobal_builtin (env := ksEnv qual scope ((h.push (kdv_tup [v])).push (PX.excO C h.objs.size)).objs.size fI (.ref cda) cc) (hg.keeps kk) hs (hb.keeps kk) ((hbb _ (by decide +kernel)).trans (show bootBuiltins "super" = some (.type "super") by first | rfl | kernel_rfl | decide +kernel)) ⟨rfl, ?_⟩)
  refine wpAny_loadName_free kkind ks2 rfl ⟨_, X0 _ _ hcell, rfl⟩ ?_
  rw [hars]
  refine wpAny_loadName_local kkind ks3 F0.ns lk2.1 ?_
  refine ks_wpAny_isType_cls hD1 hD2 ⟨rfl, ?_⟩
  refine ks_wpAny_call_super hD1 hD2 Ie.at_ Ie.cls (fun c e => ?_) (looks_mroIn X0 T.mro) (fun h2 e2 kp2 => ?_)
  · cases e
  obtain ⟨F2, N2, l2⟩ := ks_newsPush (s := ⟨h₀, g, d, t, os⟩) F0 N0 rfl e2 kp2
  have Ie2 : InstAt h2 (h.objs.size + 1) (excObj C h.objs.size none .none) C none := InstAt.of_exc0 N2 (List.mem_cons_of_mem _ List.mem_cons_self)
  refine kxs_method (s := ⟨h2, g, d, _, os⟩) T.kxs F2 X N2 List.mem_cons_self Ie2 T.tp T.sup T.subB (by decide) (fun q h3 F3 N3 l3 => ?_)
  show wpAny _ _ (callWith p4 (.ref q) [] (backTo p4 (starEach [.Constant (.str m) j p3] _)) []) _ _ _
  refine kxs_callWith1 N3 List.mem_cons_self ?_ rfl rfl
  show wpAny _ _ (spliced ((false, eval (.Constant (.str m) j p3) _) :: backTo p4 (starEach [] _))) _ _ _
  refine spliced_cons (wpAny_Constant_str (spliced_nil ⟨kxs_at N3 List.mem_cons_self, ?_⟩))
  have hsz1 := Nat.ne_of_lt (l2 _ List.mem_cons_self)
  have U : UpdF (h.objs.size + 1) (excObj C h.objs.size none .none) _ _ :=
    .tail (d := h.objs.size + 1) (o := excObj C h.objs.size none .none) (p := (q, kxs_mw initId (h.objs.size + 1))) (Ne.symm (Nat.ne_of_lt (l3 _ (List.mem_cons_of_mem _ List.mem_cons_self)))) (.tail (p := (_, ks_superObj C (h.objs.size + 1) C)) (Ne.symm hsz1)
      (.head (d := h.objs.size + 1) (o := excObj C h.objs.size none .none) (r := [(h.objs.size, excTup [v])]) (fun p hp => by
        rcases List.mem_cons.mp hp with rfl | hp
        · exact Nat.ne_of_lt (Nat.lt_succ_self _)
        · cases hp)))
  refine kxs_call (s := ⟨h3, g, d, _, os⟩) F3 X N3 T.base T.q List.mem_cons_self U (by show 1 ≤ sizeLine; rw [sizeLine_eq]; omega) (fun t' h4 F4 N4 l4 => ?_)
  refine wpAt_of_wpAny (wpAny_execs_cons (plainObj_wpAny_Assign_Attribute ?_))
  refine wpAny_Name (wpAny_loadName_local kkind ks4 F4.ns lk2.2 ?_) T.fdb
  refine wpAny_Name (wpAny_loadName_local kkind ks3 F4.ns lk2.1 ?_)
  have a1 : t' ≠ h.objs.size + 1 := Ne.symm (Nat.ne_of_lt (l4 _ (List.mem_cons_of_mem _ (List.mem_cons_of_mem _ List.mem_cons_self))))
  have a2 : q ≠ h.objs.size + 1 := Ne.symm (Nat.ne_of_lt (l3 _ (List.mem_cons_of_mem _ List.mem_cons_self)))
  have mx := List.mem_cons_of_mem (t', excTup [Value.str m (t + [(("self" : Str), Value.ref (h.objs.size + 1)), (f, v)].length + 1)]) (List.mem_cons_of_mem (q, kxs_mw initId (h.objs.size + 1)) (List.mem_cons_of_mem (h₀.objs.size, ks_superObj C (h.objs.size + 1) C) (List.mem_cons_self (a := (h.objs.size + 1, excObj C t' none .none)) (l := [(h.objs.size, excTup [v])]))))
  have U2 : ∀ r, (∀ p ∈ r, p.1 ≠ h.objs.size + 1) → UpdF (h.objs.size + 1) (excObj C t' none .none) ((t', excTup [Value.str m (t + [(("self" : Str), Value.ref (h.objs.size + 1)), (f, v)].length + 1)]) :: (q, kxs_mw initId (h.objs.size + 1)) :: (h₀.objs.size, ks_superObj C (h.objs.size + 1) C) :: (h.objs.size + 1, excObj C t' none .none) :: r) _ :=
    fun r hr => .tail a1 (.tail a2 (.tail (Ne.symm hsz1) (.head hr)))
  have U2 := U2 [(h.objs.size, excTup [v])] fun p hp => by
    rcases List.mem_cons.mp hp with rfl | hp
    · exact Nat.ne_of_lt (Nat.lt_succ_self _)
    · cases hp
  refine set_exc0 (s := ⟨h4, g, d, _, os⟩) T.sto F4 X N4 mx T.sa T.ov T.tk T.dict rfl U2 (by simp [putL]) (fun dx h5 F5 N5 l5 => ?_)
  refine wpAny_execs_nil ⟨rfl, ?_⟩
  have e5 := (N5 _ (List.mem_cons_of_mem _ (List.mem_cons_of_mem _ (List.mem_cons_of_mem _ (List.mem_cons_of_mem _ List.mem_cons_self))))).1
  have d5 := N5 _ List.mem_cons_self
  refine hq (h.objs.size + 1) dx t' h5 _ F5.keep (Nat.le_succ _) ?_ ?_ e5 ?_
  · exact Nat.le_of_lt (Nat.lt_of_lt_of_le (Nat.lt_succ_self _) (Nat.le_of_lt (l5 _ mx)))
  · exact Ne.symm (Nat.ne_of_lt (l5 _ mx))
  · refine ⟨_, _, _, d5.1, rfl, ?_, ?_, fun name => ?_⟩
    · intro e he
      have he : e ∈ ([⟨_, .str f _, v⟩] : List DictEntry).toArray := he
      simp only [List.mem_toArray, List.mem_singleton] at he
      subst he
      exact ⟨f, _, rfl⟩
    · exact List.pairwise_singleton _ _
    · show findBy _ ([⟨_, .str f _, v⟩] : List DictEntry).toArray name = _
      unfold findBy
      by_cases hn : name = f
      · subst hn; simp [Value.isStr]
      · have hn2 : (f == name) = false := by simpa using fun z => hn z.symm
        simp [Value.isStr, hn, hn2]
end
end PL

set_option maxHeartbeats 4000000
namespace PL
open PySem PySem.Spec PyProof.Rows L2

/-! ### making a value exception, as an expression to be raised -/
theorem pmk_val {X : Cx} {x f : Str} {C : Addr} {e : Expr} {p pos : Pos} {ta : TE} {B newId initId : String} {bmB : List Value} {fI cc cda : Addr} {k : Nat} (T : VcK X.prog X.K C f B newId initId bmB fI cc cda) (kC : PySem.W.keepIn X.K (.ref C) = true)
    (r : Raises X (.ref C)) (hr : Room k X.A) (hg : Gl X x) (gC : X.mg x = some (.ref C)) (hs : X.mg "super" = none) (hdb : (x == ("__debug__" : Str)) = false) (he : PE X e ta) (hst : starEach [e] X.env = [(false, eval e X.env)]) :
    PMk X (.Call (.Name x p) [e] [] pos) fun σ H Q => ta σ H fun v H1 => ∀ dx, H1 dx = none → Q (.ref C) (some dx) (upd H1 dx (.xd [(f, v)])) := fun pins s σ H Q I h => by
  refine wpAny_Call_Name_kw (ld_glob I hg gC ?_ hdb)
  refine PySem.W.callWith_K (h₀ := X.base) I.ok.mod.kin kC ?_ (by rw [hst]; rfl) rfl
  rw [hst]
  show wpAny _ _ (spliced ((false, eval e X.env) :: backTo pos (starEach [] X.env))) _ _ s
  refine Calls.spliced_cons (thn (he.run pins s σ H _ I h) fun u s1 ⟨v, H1, I1, r1, q1⟩ => Calls.spliced_nil ⟨I1.kIn, ?_⟩)
  show wpAny _ _ (call (.ref C) [u]) _ _ _
  obtain ⟨mb, hb, hbb⟩ := I1.ok.mod.blt
  refine val_call T I1.kIn (I1.mod.glob.keeps I1.bk) (hb.keeps I1.bk) hbb hs I1.nolimit (by rw [make_depth]; have := hr.dp; omega) fun a dx t h' tk kp ha hd hne ea ed => ?_
  obtain ⟨G, g1, g2⟩ := restrict h' fun b => decide (b ≠ a)
  have old : ∀ b o, s1.heap.get? b = some o → b ≠ a := fun b o z => Nat.ne_of_lt (Nat.lt_of_lt_of_le (Heap.lt_size z) ha)
  have gk : ∀ b, b ≠ a → G.get? b = h'.get? b := fun b n => g1 b (decide_eq_true n)
  have ga : G.get? a = none := g2 a (by simp)
  have nd : H1 dx = none := I1.hok.fresh hd
  have J : Inv X pins σ (upd H1 dx (.xd [(f, v)])) { s1 with heap := G, toks := tk } := I1.laid (t' := tk) (a := dx) (o := .xd [(f, v)]) (h' := G) (fun b o z => by rw [gk b (old b o z)]; exact kp b o z) hd (by
    refine ⟨_, ed.at fun o z => by rw [gk dx hne]; exact z, fun g => ?_⟩
    show RelO (List.lookup g [(f, v)]) (if g = f then some u else none)
    by_cases n : g = f
    · subst n
      rw [if_pos rfl]
      simp only [List.lookup, beq_self_eq_true]
      exact r1
    · rw [if_neg n]
      have n2 : (g == f) = false := by simpa using n
      simp only [List.lookup, n2]
      exact True.intro)
  refine ⟨a, _, _, _, _, .ref C, some dx, rfl, J, fun b o z => ?_, ga, ea, ⟨rfl, rfl⟩, rfl, rfl, ?_, rfl, I1.bare, r, q1 dx nd⟩
  · by_cases n : b = a
    · rw [n] at z
      exact absurd (ga.symm.trans z) (by simp)
    · rw [← gk b n]; exact z
  · rw [upd_ne (Ne.symm hne)]
    exact I1.hok.fresh ha
/-! ### try with many clauses, some of them with a name -/
abbrev Cl : Type := Value × Option Nat × (Addr → Value → Option Addr → TS)
def wMix (K : PySem.W.Frag) (Wo : WX) (D : Ends) : List Cl → WX
  | [] => Wo
  | (c, none, ts) :: r => fun cls d σ H => ∃ b, PySem.W.exmOne K cls c = some b ∧ (b = true → ∀ a, H a = none → ts a cls d D σ H) ∧ (b = false → wMix K Wo D r cls d σ H)
  | (c, some i, ts) :: r => fun cls d σ H => ∃ b, PySem.W.exmOne K cls c = some b ∧
      (b = true → ∀ a, H a = none → ts a cls d { nx := fun σ' H' => D.nx (σ'.set i none) H', rt := D.rt, bk := fun σ' H' => D.bk (σ'.set i none) H', ct := fun σ' H' => D.ct (σ'.set i none) H' } (σ.set i (some (.ref a))) H) ∧ (b = false → wMix K Wo D r cls d σ H)
inductive Mix (X : Cx) : List ExceptHandler → List Cl → Prop
  | nil : Mix X [] []
  | pl {x : Str} {c : Value} {ts : Addr → Value → Option Addr → TS} {b₀ : Stmt} {su : List Stmt} {np p' : Pos} {hds : List ExceptHandler} {l : List Cl} (hc : Names X x c)
      (hsu : ∀ (a : Addr) (oe : Obj) (cls : Value) (d : Option Addr) (pn : List (Addr × Obj)), Zc cls d oe → (∃ vs, oe.data = .fields vs) → PSs (X.suite a ((a, oe) :: pn)) (b₀ :: su) (ts a cls d)) (r : Mix X hds l) :
      Mix X (.ExceptHandler (some (.Name x np)) none (b₀ :: su) p' :: hds) ((c, none, ts) :: l)
  | as {x n : Str} {i : Nat} {c : Value} {ts : Addr → Value → Option Addr → TS} {b₀ : Stmt} {su : List Stmt} {np p' : Pos} {hds : List ExceptHandler} {l : List Cl} (hc : Names X x c) (hi : X.N[i]? = some n) (hl : X.env.kindOf n = some .local)
      (hsu : ∀ (a : Addr) (oe : Obj) (cls : Value) (d : Option Addr) (pn : List (Addr × Obj)), Zc cls d oe → (∃ vs, oe.data = .fields vs) → PSs (X.suite a ((a, oe) :: pn)) (b₀ :: su) (ts a cls d)) (r : Mix X hds l) :
      Mix X (.ExceptHandler (some (.Name x np)) (some n) (b₀ :: su) p' :: hds) ((c, some i, ts) :: l)
theorem ps_try_mix {X : Cx} {bd : List Stmt} {h₀ : ExceptHandler} {hds : List ExceptHandler} {l : List Cl} {pos : Pos} {tb : WX → TS} {Wo : WX} (hs : X.stack = X.env :: X.outer) (hf : X.env.frame = some X.env.locals) (hN : X.N.Nodup) (tk : Takes X Wo)
    (hb : ∀ (W : WX) (pn : List (Addr × Obj)) (xe : Value → Shared → Prop), Takes (X.tr pn xe) W → PassesOwn (model X.prog X.w) X.A X.env xe → PSs (X.tr pn xe) bd (tb W)) (hh : Mix X (h₀ :: hds) l) :
    PS X (.Try bd (h₀ :: hds) [] [] pos) fun D σ H => tb (wMix X.K Wo D l) D σ H := by
  refine ⟨fun pins s σ H D I h => ?_⟩
  have okX := I.ok
  have frX : X.A.frames = some (X.env :: X.outer) := by rw [okX.frames, hs]
  have tkB : Takes (X.tr (X.pn ++ pins) fun e s1 => wpAny (model X.prog X.w) X.A (noteFrame e X.env) (fun _ s2 => wpAny (model X.prog X.w) X.A (setFlight e none) (fun _ s3 => wpAny (model X.prog X.w) X.A (handleBy e X.env (h₀ :: hds)) (SP X pins D) X.xe s3) X.xe s2) X.xe s1) (wMix X.K Wo D l) := fun u s' xx => by
    obtain ⟨a, B, sI, pins', σ', H', cls, d, rfl, J', nb, up, sk, na, os, ag, w⟩ := xx
    have J : Inv X pins σ' H' sI := J'.ofTry okX
    have sk : Sky B (X.env :: X.outer) a (Zc cls d) X.env.locals s'.heap := hs ▸ sk
    show wpAny (model X.prog X.w) X.A (noteFrame (.ref a) X.env) _ _ _
    refine Sky.land (M := model X.prog X.w) (E₁ := X.xe) Zc.steady frX hf sk fun h3 fl3 up3 => ?_
    have J3 : Inv X pins σ' H' { s' with heap := h3 } := J.landed nb fl3.1 (up.trans up3) os ag
    obtain ⟨oe3, vs3, he3, hz3, hd3⟩ := fl3.there
    have apart : a ∉ frs (X.env :: X.outer) := fun hm => by
      obtain ⟨_, o', e', hnf⟩ := fl3.2.2.1.mem hm
      rw [he3] at e'
      cases e'
      exact hnf _ hd3
    have nL : a ≠ X.env.locals := fun z => apart (List.mem_filterMap.mpr ⟨X.env, List.mem_cons_self, by rw [hf, z]⟩)
    have nF : a ∉ X.fs := fun hm => by
      obtain ⟨e, me, q⟩ := List.mem_filterMap.mp hm
      exact apart (List.mem_filterMap.mpr ⟨e, List.mem_cons_of_mem _ me, q⟩)
    have S3 := J3.suite he3 hd3 na nL nF
    have test : ∀ {x : Str} {c : Value} {np : Pos}, Names X x c → ∀ {Q E : Value → Shared → Prop}, Q c { s' with heap := h3 } → wpAny (model X.prog X.w) (X.A.mark (some (.ref a))) (eval (.Name x np) X.env) Q E { s' with heap := h3 } := fun {x c np} hc {Q E} q => by
      obtain ⟨g1, g2, m | ⟨m, v, n⟩⟩ := hc
      · exact ld_glob (X := X.suite a ((a, oe3) :: (X.pn ++ pins))) S3 g1 m q g2
      · exact ld_blt (X := X.suite a ((a, oe3) :: (X.pn ++ pins))) S3 g1 m v q n g2
    have looks : ∀ {c : Value} {b : Bool}, PySem.W.exmOne X.K cls c = some b → _ := fun {c b} hb1 => PySem.W.exm_one (M := model X.prog X.w) J3.kIn (fun A Q E s k q => wpAny_typeOf_ref (k _ _ he3) (by rw [hz3.1]; exact q) : PySem.W.Looks (model X.prog X.w) h3 (typeOf (.ref a)) cls) hb1
    have go : ∀ {hds' : List ExceptHandler} {l' : List Cl}, Mix X hds' l' → wMix X.K Wo D l' cls d σ' H' → wpAny (model X.prog X.w) X.A (handleBy (.ref a) X.env hds') (SP X pins D) X.xe { s' with heap := h3 } := by
      intro hds' l' hk
      induction hk with
      | nil =>
        intro w
        refine wpAny_handleBy_nil ?_
        obtain ⟨k1, k2, k3, oe, vs, T, oT, ts', he, hz, hd, h1, hr⟩ := id fl3
        unfold PySem.passOn
        refine wpAny_bind (wpAny_field he hd h1 ?_)
        rw [if_neg (show ¬ ((Value.ref T == Value.none) = true) by simp)]
        have out : wpAny (model X.prog X.w) X.A (setFlight (.ref a) X.env.frame) (fun _ s4 => wpAny (model X.prog X.w) X.A (throw (.ref a) : Sem Flow) (SP X pins D) X.xe s4) X.xe { s' with heap := h3 } := by
          rw [hf]
          exact HandSPX.setFlight_upZ fl3 fun h4 hh4 up4 => wpAny_throw (tk _ _ ⟨a, B, sI, pins, σ', H', cls, d, rfl, J, nb, (up.trans up3).trans up4, .inr (.inr (by rw [hs]; exact hh4)), na, os, ag, w⟩)
        first
          | exact wpAny_bind (wpAny_pure (wpAny_bind out))
          | exact wpAny_bind out
      | pl hc hsu r ih =>
        rintro ⟨b, hb1, hy, hn⟩
        refine wpAny_handleBy_cons (codeAny_handlers_test (test hc ((looks hb1).here ?_))) (by intro q; cases q)
        cases b with
        | false => exact ih (hn rfl)
        | true =>
          refine codeAny_handlers_suite (HandSPX.lands_againZ fl3 fun h4 fl4 up4 => ?_)
          have J4 : Inv X pins σ' H' { s' with heap := h4 } := J.landed nb fl4.1 ((up.trans up3).trans up4) os ag
          obtain ⟨oe4, vs4, he4, hz4, hd4⟩ := fl4.there
          refine wpAny_mono ((hsu a oe4 cls d (X.pn ++ pins) hz4 ⟨_, hd4⟩).run [] _ _ H' _ (J4.suite he4 hd4 na nL nF) (hy rfl a na)) (fun f s6 z => ?_) (fun _ _ z => False.elim z)
          cases f with
          | ret u => exact let ⟨_, _, _, S6, r6, q6⟩ := z; ⟨_, _, _, S6.unsuite okX, r6, q6⟩
          | next => exact let ⟨_, _, S6, q6⟩ := z; ⟨_, _, S6.unsuite okX, q6⟩
          | brk => exact let ⟨_, _, S6, q6⟩ := z; ⟨_, _, S6.unsuite okX, q6⟩
          | cont => exact let ⟨_, _, S6, q6⟩ := z; ⟨_, _, S6.unsuite okX, q6⟩
      | as hc hi hl hsu r ih =>
        rintro ⟨b, hb1, hy, hn⟩
        refine wpAny_handleBy_cons (codeAny_handlers_test (test hc ((looks hb1).here ?_))) (by intro q; cases q)
        cases b with
        | false => exact ih (hn rfl)
        | true =>
          refine codeAny_handlers_suite_as (HandSPX.lands_againZ fl3 fun h4 fl4 up4 => ?_)
          have J4 : Inv X pins σ' H' { s' with heap := h4 } := J.landed nb fl4.1 ((up.trans up3).trans up4) os ag
          obtain ⟨oe4, vs4, he4, hz4, hd4⟩ := fl4.there
          refine store_ok (X := X.suite a ((a, oe4) :: (X.pn ++ pins))) (v := .ref a) (J4.suite he4 hd4 na nL nF) hN hi (.inl hl) rfl (fun s5 S5 => ?_) (.inr hl)
          refine wpAny_mono ((hsu a oe4 cls d (X.pn ++ pins) hz4 ⟨_, hd4⟩).run [] s5 _ H' _ S5 (hy rfl a na)) (fun f s6 z => ?_) (fun _ _ z => False.elim z)
          cases f with
          | ret u => exact let ⟨_, _, _, S6, r6, q6⟩ := z; gone_ok (S6.unsuite okX) hN hi hl fun s7 J7 => ⟨_, _, _, J7, r6, q6⟩
          | next => exact let ⟨_, _, S6, q6⟩ := z; gone_ok (S6.unsuite okX) hN hi hl fun s7 J7 => ⟨_, _, J7, q6⟩
          | brk => exact let ⟨_, _, S6, q6⟩ := z; gone_ok (S6.unsuite okX) hN hi hl fun s7 J7 => ⟨_, _, J7, q6⟩
          | cont => exact let ⟨_, _, S6, q6⟩ := z; gone_ok (S6.unsuite okX) hN hi hl fun s7 J7 => ⟨_, _, J7, q6⟩
    exact go hh w
  refine wpAny_Try_except (wpAny_mono ((hb (wMix X.K Wo D l) _ _ tkB PassesOwn.looking).run [] s σ H D (I.toTry _) h) (fun f s1 z => ?_) fun e s1 he => he)
  cases f with
  | ret u => exact let ⟨v, _, _, J', r, q⟩ := z; ⟨v, _, _, J'.ofTry okX, r, q⟩
  | next => exact let ⟨_, _, J', q⟩ := z; wpAny_execs_nil ⟨_, _, J'.ofTry okX, q⟩
  | brk => exact let ⟨_, _, J', q⟩ := z; ⟨_, _, J'.ofTry okX, q⟩
  | cont => exact let ⟨_, _, J', q⟩ := z; ⟨_, _, J'.ofTry okX, q⟩
end PL

set_option maxHeartbeats 4000000
namespace PL
open PySem PySem.Spec PyProof.Rows L2 LamX

/-! ### x(lambda: body) where nothing is being shown; x calls it within a try -/
section
variable {X : Cx} {pins : List (Addr × Obj)} {σ : L2.St} {H : Hp} {s : Shared}
/-- the lambda, called in the def that got it -/
theorem act_run {Ng : List Str} {qg : Str} {sg : Scope} {g f c2 : Addr} {cdg pmv ctv : Value} {params : Arguments} {body : Expr} {scope : Scope} {k i : Nat} {a : Str} {pn : List (Addr × Obj)} {xe : Value → Shared → Prop} {W : WX} {t : XK → TE} {p1 p2 : Pos}
    (I : L2.Inv X pins σ H s) (L : LamS X.env.scope scope) (hf : s.heap.get? f = some (PySem.W.kla_obj "<lambda>" (X.env.qual ++ "<lambda>") params body scope (cloFrom X.env.cells scope.names []) pmv c2 ctv)) (hfn : H f = none) (hfr : f ∉ frs X.stack)
    (hbd : bindArgs (PySem.W.kla_fn "<lambda>" (X.env.qual ++ "<lambda>") params body scope (cloFrom X.env.cells scope.names []) pmv (.ref c2) ctv) ⟨[], []⟩ = pure [])
    (tk : Takes ((cxOf C8.CX0 X.prog X.w X.K X.mg X.base Ng qg sg g cdg X.A X.stack s H C8.E0).tr pn xe) W) (hr : Room (k + 1) (X.A.deeper (envOfC qg sg s.heap.objs.size g cdg))) (hgd : X.A.guards = some [])
    (hbody : ∀ (A : Around) (outer : List PySem.Env) (s : Shared) (H : Hp) (E : XK), Room k (A.deeper (lamEnv X scope s.heap.objs.size f c2)) → A.guards = some [] → PE (lamCx X A outer s H E scope f c2) body (t E))
    (hN : Ng[i]? = some a) (hv : Vis sg a) (hd : (a == ("__debug__" : Str)) = false) (hcd : (a == ("__classdict__" : Str)) = false) :
    PE ((cxOf C8.CX0 X.prog X.w X.K X.mg X.base Ng qg sg g cdg X.A X.stack s H C8.E0).tr pn xe) (.Call (.Name a p1) [] [] p2)
      (fun σZ HZ Q => σZ[i]? = some (some (.ref f)) ∧ HZ c2 = some (CodeO c2 (X.env.qual ++ "<lambda>")) ∧ t (fun cls d H' => W cls d σZ H') σ HZ Q) := by
  refine ⟨fun pinsZ sZ σZ HZ Q IZ hh => ?_⟩
  obtain ⟨h1, h2, h3⟩ := hh
  have nm := (pe_var (pos := p1) (i := i) hN hv hd hcd).run pinsZ sZ σZ HZ (fun v H1 => v = .ref f ∧ H1 = HZ) IZ ⟨.ref f, h1, rfl, rfl⟩
  refine wpAny_Call_Name_kw (thn nm fun u s1 ⟨v, H1, I1, r1, ev, eH⟩ => ?_)
  subst ev
  rw [eH] at I1
  obtain rfl : u = Value.ref f := r1
  have fAt := I1.base.keep f _ hf hfn hfr (fun z => nomatch (show f ∈ ([] : List Addr) from z))
  refine PySem.W.callWith_F0 ⟨_, _, _, _, fAt⟩ ?_
  have ub : Un (frs X.stack) [] H HZ s.heap s1.heap := I1.base
  obtain ⟨⟨oc, vs, tt, o1, o2, o3⟩, _, _⟩ := I1.hok c2 _ h2
  have main : codeAny (model X.prog X.w) (X.A.deeper (envOfC qg sg s.heap.objs.size g cdg)) (.call (.ref f) ⟨[], []⟩) (CR (L2.CX X.prog X.w) (envOfC qg sg s.heap.objs.size g cdg :: X.stack) X.prog X.w HZ s1 Q fun cls d H' => W cls d σZ H') s1 := by
    refine PySem.W.kla_callFunE hr.depth fAt rfl L.co L.gen rfl ⟨c2, oc, vs, tt, rfl, o1, o2, o3⟩ ?_
    rw [hbd]
    refine wpAny_pure (wpAny_newFunctionEnv (fun y hy => (L.own y hy).2) (fun y hy => absurd hy (by simp)) (fun hp1 hns hsb => ⟨I1.nolimit.fresh _ hsb, ?_⟩) L.kind)
    show codeAny _ _ (.expr body (lamEnv X scope s1.heap.objs.size f c2)) _ _
    have kp : ∀ b o, s1.heap.get? b = some o → hp1.get? b = some o := fun b o e => hsb.extBut b o (Nat.ne_of_lt (Heap.lt_size e)) (Heap.get?_push_of_some _ e)
    have J : L2.Inv (lamCx X (X.A.deeper (envOfC qg sg s.heap.objs.size g cdg)) (envOfC qg sg s.heap.objs.size g cdg :: X.stack) s1 HZ (fun cls d H' => W cls d σZ H') scope f c2) [] σ HZ { s1 with heap := hp1, toks := s1.toks + ([] : List (Str × Value)).length } :=
      lam_start2 I L I1.env0 hr.hd ub hns kp
    refine PySem.W.kla_codeExpr (wpAny_mono ((hbody _ _ s1 HZ _ (hr.deeper _) hgd).run [] _ _ HZ Q J h3) (fun v s' hq => ?_) fun e s' hq => hq)
    exact let ⟨w', H', J', rv, q⟩ := hq; ⟨w', H', J'.os, J'.bare, J'.base, J'.hok, rv, q⟩
  refine wpAny_call (codeAny_mono main fun r s' hq => ?_)
  match r, hq with
  | .error e, hq => exact tk e s' (XE.of_call I1 (fun _ _ _ z => z) hq)
  | .ok (.ret u), hq => exact I1.after hq
  | .ok .next, hq => exact False.elim hq
  | .ok .brk, hq => exact False.elim hq
  | .ok .cont, hq => exact False.elim hq

/-- the heap behind a lambda's making: as it was, or its code object is new and told by the table -/
def MadeL (P : Addr) (q : Str) (T : List (Addr × Str)) (H H1 : Hp) : Prop := Tabs T H1 ∧ (H1 = H ∨ ∃ (ps more : Array Value) (c2 : Addr), H P = some (.tbl ps) ∧ H c2 = none ∧ H1 = upd (upd H P (.tbl (ps ++ more))) c2 (CodeO c2 q))
theorem made_run {T : List (Addr × Str)} {c P : Addr} {params : Arguments} {body : Expr} {scope : Scope} {pos : Pos} {E : Value → Shared → Prop} {Q : Value → Shared → Prop} (I : L2.Inv X pins σ H s) (TB : TabB X.base X.mg c P) (hco : X.env.code = .ref c)
    (hm : (P, X.env.qual ++ "<lambda>") ∈ T) (hu : ∀ p ∈ T, p.1 = P → p.2 = X.env.qual ++ "<lambda>") (hT : Tabs T H) (hdef : defaultsOf params X.env = ([], [])) (hfree : ∀ y ∈ scope.names, y.2 = .free → ∃ c, X.env.cells.lookup y.1 = some c)
    (h : ∀ (f c2 : Addr) (pmv ctv : Value) (H1 : Hp) (s' : Shared), L2.Inv X pins σ H1 s' → MadeL P (X.env.qual ++ "<lambda>") T H H1 → s'.heap.get? f = some (PySem.W.kla_obj "<lambda>" (X.env.qual ++ "<lambda>") params body scope (cloFrom X.env.cells scope.names []) pmv c2 ctv) →
      H1 f = none → f ∉ frs X.stack → H1 c2 = some (CodeO c2 (X.env.qual ++ "<lambda>")) → Q (.ref f) s') : wpAny (model X.prog X.w) X.A (eval (.Lambda params body scope pos) X.env) Q E s := by
  obtain ⟨ps, hP, tri, ha⟩ := hT _ hm
  have nofr : ∀ f, s.heap.objs.size ≤ f → f ∉ frs X.stack := fun f hf z => (List.mem_cons.mp (I.stkSub _ z)).elim (fun e => absurd (Nat.lt_of_lt_of_le (e ▸ I.lt) hf) (Nat.lt_irrefl _)) fun e => I.nofs hf e
  refine PySem.W.kla_eval hdef ?_
  cases hc : codeAmong pos ps.toList with
  | some cv =>
    obtain ⟨c2, rfl, hco2⟩ := ha pos cv hc
    refine PySem.W.kla_makeFunctionHit (mg := X.mg) (c := c) (P := P) (ps := ps) (closure_ok hfree) I.ok.glob (I.mod.glob.keeps I.bk) hco (TB.code.keeps I.bk) (I.hok P _ hP) tri hc (TB.bm.keeps I.bk) fun ctv h' tk hx hsz => ?_
    exact h h'.objs.size c2 ((X.mg "__name__").getD .none) ctv H _ (I.kept fun b o e => Heap.get?_push_of_some _ (hx b o e)) ⟨hT, .inl rfl⟩ (Heap.get?_push_size _ rfl) (I.hok.fresh hsz) (nofr _ hsz) hco2
  | none =>
    refine PySem.W.kla_makeFunction (mg := X.mg) (c := c) (P := P) (ps := ps) (closure_ok hfree) I.ok.glob (I.mod.glob.keeps I.bk) hco (TB.code.keeps I.bk) (I.hok P _ hP) tri hc TB.gP (TB.bm.keeps I.bk) fun c2 ctv h' tk hx hge hlt hrec htb => ?_
    obtain ⟨c3, oc, vs, t, ec, hoc, hd, hv⟩ := hrec
    cases ec
    have hsz : s.heap.objs.size ≤ h'.objs.size := Nat.le_trans hge (Nat.le_of_lt hlt)
    have nC : H c2 = none := I.hok.fresh hge
    have nP : P ≠ c2 := ne_of_none hP nC
    have I1 := inv_table (t' := tk) (q := X.env.qual ++ "<lambda>") (more := #[rawInt pos.line, rawInt pos.col, .ref c2]) (h' := h'.push (PySem.W.kla_obj "<lambda>" (X.env.qual ++ "<lambda>") params body scope (cloFrom X.env.cells scope.names []) ((X.mg "__name__").getD .none) c2 ctv)) I hP
      (fun b o hb e => Heap.get?_push_of_some _ (hx b o hb e)) (Heap.get?_push_of_some _ htb) hge ⟨oc, vs, t, Heap.get?_push_of_some _ hoc, hd, hv⟩
    have old : ∀ b o, H b = some o → (∀ ps, o ≠ .tbl ps) → upd (upd H P (.tbl (ps ++ #[rawInt pos.line, rawInt pos.col, .ref c2]))) c2 (CodeO c2 (X.env.qual ++ "<lambda>")) b = some o := fun b o e n => by
      rw [upd_ne (ne_of_none e nC), upd_ne (fun z => n ps (Option.some.inj (e.symm.trans (by rw [z]; exact hP))))]
      exact e
    refine h h'.objs.size c2 ((X.mg "__name__").getD .none) ctv _ _ I1 ⟨fun p hp => ?_, .inr ⟨ps, _, c2, hP, nC, rfl⟩⟩ (Heap.get?_push_size _ rfl) ?_ (nofr _ hsz) upd_same
    · by_cases hb : p.1 = P
      · rw [hu p hp hb, hb]
        have eL : (ps ++ #[rawInt pos.line, rawInt pos.col, .ref c2]).toList = ps.toList ++ [rawInt pos.line, rawInt pos.col, .ref c2] := by simp
        refine ⟨_, by rw [upd_ne nP, upd_same], by rw [eL]; exact PySem.TriplesOk_snoc _ _ _ _ tri, fun p' cv hcv => ?_⟩
        rw [eL] at hcv
        rcases among_app _ tri hcv with z | z
        · exact let ⟨c0, e1, e2⟩ := ha p' cv z; ⟨c0, e1, old _ _ e2 codeO_ne⟩
        · exact ⟨c2, z, upd_same⟩
      · obtain ⟨ps', a1, a2, a3⟩ := hT p hp
        exact ⟨ps', by rw [upd_ne (ne_of_none a1 nC), upd_ne hb]; exact a1, a2, fun p' cv hcv => let ⟨c0, e1, e2⟩ := a3 p' cv hcv; ⟨c0, e1, old _ _ e2 codeO_ne⟩⟩
    · rw [upd_ne (Nat.ne_of_gt hlt), upd_ne (Nat.ne_of_gt (Nat.lt_of_lt_of_le (Heap.lt_size (I.hok P _ hP)) hsz))]
      exact I.hok.fresh hsz

/-- what x(lambda: body) reads; tB: x's block, given the lambda's reading -/
def tLamG (P : Addr) (q : Str) (T : List (Addr × Str)) (t : XK → TE) (B : (XK → Hp → VK → Prop) → Hp → VK → Prop) : TE := fun σ H Q => Tabs T H ∧ ∀ H1, MadeL P q T H H1 → B (fun E H' Q' => t E σ H' Q') H1 Q
/-- the def x, that calls what it got as a: its block bg reads B -/
def GivesG (X : Cx) (Ng : List Str) (x : Str) (sg : Scope) (g : Addr) (cdg : Value) (bg : List Stmt) (a q : Str) (B : (XK → Hp → VK → Prop) → Hp → VK → Prop) : Prop :=
  ∀ (f c2 : Addr) (s : Shared) (H : Hp) (Q : VK) (tl : XK → Hp → VK → Prop),
    (∀ (W : WX) (pn : List (Addr × Obj)) (xe : Value → Shared → Prop) (p1 p2 : Pos), Takes ((cxOf C8.CX0 X.prog X.w X.K X.mg X.base Ng x sg g cdg X.A X.stack s H C8.E0).tr pn xe) W →
      PE ((cxOf C8.CX0 X.prog X.w X.K X.mg X.base Ng x sg g cdg X.A X.stack s H C8.E0).tr pn xe) (.Call (.Name a p1) [] [] p2) (fun σZ HZ Q => σZ[0]? = some (some (.ref f)) ∧ HZ c2 = some (CodeO c2 q) ∧ tl (fun cls d H' => W cls d σZ H') HZ Q)) →
    H c2 = some (CodeO c2 q) → B tl H Q → ∃ t, PSs (cxOf C8.CX0 X.prog X.w X.K X.mg X.base Ng x sg g cdg X.A X.stack s H C8.E0).nox bg t ∧ t { nx := fun _ H' => Q .non H', rt := Q } (L2.start Ng [.ref f]) H
theorem pe_lamG {T : List (Addr × Str)} {B : (XK → Hp → VK → Prop) → Hp → VK → Prop} {x a : Str} {g c P : Addr} {k : Nat} {pg : Arguments} {bg : List Stmt} {sg : Scope} {dV kV doc pm cdv ct oc : Value} {an od : Option Addr} {osl : Array (Option Value)} {Ng : List Str}
    {params : Arguments} {body : Expr} {scope : Scope} {t : XK → TE} {p lpos pos : Pos} (hg : Gl X x) (hm : X.mg x = some (.ref g)) (hk : PySem.W.keepIn X.K (.ref g) = true)
    (lk : X.K.lookup g = some ⟨oc, od, .func (PySem.W.fnOf x x pg bg sg dV kV doc pm an cdv ct), osl⟩) (hcg : PySem.W.codeIn X.K cdv x = true) (hb : L2.Binds X.K (PySem.W.fnOf x x pg bg sg dV kV doc pm an cdv ct) [a] []) (Sg : FnScope Ng [a] sg) (hNg : Ng[0]? = some a) (hva : Vis sg a)
    (hG : GivesG X Ng x sg g cdv bg a (X.env.qual ++ "<lambda>") B) (TB : TabB X.base X.mg c P) (hcode : X.env.code = .ref c) (hmT : (P, X.env.qual ++ "<lambda>") ∈ T) (hu : ∀ p ∈ T, p.1 = P → p.2 = X.env.qual ++ "<lambda>")
    (hr : Room (k + 2) X.A) (hgd : X.A.guards = some []) (L : LamS X.env.scope scope) (hdef : defaultsOf params X.env = ([], []))
    (hbind : ∀ (q : Str) (cl : List (Str × Addr)) (pm cv ctv : Value), bindArgs (PySem.W.kla_fn "<lambda>" q params body scope cl pm cv ctv) ⟨[], []⟩ = pure [])
    (hbody : ∀ (A : Around) (outer : List PySem.Env) (s : Shared) (H : Hp) (E : XK) (f c2 : Addr), Room k (A.deeper (lamEnv X scope s.heap.objs.size f c2)) → A.guards = some [] → PE (lamCx X A outer s H E scope f c2) body (t E))
    (hdb : (x == ("__debug__" : Str)) = false) (hd : (a == ("__debug__" : Str)) = false) (hcd : (a == ("__classdict__" : Str)) = false) :
    PE X (.Call (.Name x p) [.Lambda params body scope lpos] [] pos) (tLamG P (X.env.qual ++ "<lambda>") T t B) := by
  refine ⟨fun pins s σ H Q I h => ?_⟩
  obtain ⟨hT, h⟩ := h
  refine wpAny_Call_Name_kw (ld_glob I hg hm ?_ hdb)
  refine PySem.W.callWith_K (h₀ := X.base) I.ok.mod.kin hk ?_ (by rfl) (by rfl)
  show wpAny _ _ (spliced ((false, eval (.Lambda params body scope lpos) X.env) :: backTo pos (starEach [] X.env))) _ _ s
  refine Calls.spliced_cons (made_run I TB hcode hmT hu hT hdef (L.has I.ok) fun f c2 pmv ctv H1 s' I1 md hf hfn hfr hco => Calls.spliced_nil ⟨I1.kIn, ?_⟩)
  have run : codeAny (model X.prog X.w) X.A (.call (.ref g) ⟨[.ref f], []⟩) (CR C8.CX0 X.stack X.prog X.w H1 s' Q C8.E0) s' := by
    refine run_ofS (N := Ng) (ps := [a]) (us := [.ref f]) (vs := [.ref f]) lk hcg Sg hr I1.env0 (hb s' [.ref f] I1.kIn rfl) (.cons rfl .nil) rfl fun hr' => ?_
    obtain ⟨t', h1, h2⟩ := hG f c2 s' H1 Q (fun E H' Q' => t E σ H' Q') (fun W pn xe p1 p2 tk => act_run (i := 0) I1 L hf hfn hfr (hbind _ _ _ _ _) tk hr' hgd (fun A outer s H E r1 r2 => hbody A outer s H E f c2 r1 r2) hNg hva hd hcd) hco (h H1 md)
    exact ⟨t', h1.nox, h2⟩
  refine wpAny_call (codeAny_mono run fun r s2 hq => ?_)
  match r, hq with
  | .error e, hq => exact (show False from hq).elim
  | .ok (.ret u), hq => exact I1.after hq
  | .ok .next, hq => exact False.elim hq
  | .ok .brk, hq => exact False.elim hq
  | .ok .cont, hq => exact False.elim hq
end
end PL

set_option maxHeartbeats 4000000
namespace PL
open PySem PySem.Spec PyProof.Rows L2 LamX

section
variable {G : Gx} {Z : Zx} {W : WX} {S S1 S' : Pr} {H H1 H' : Hp} {env env1 env' : Env} {σ σ1 : L2.St} {X : Cx}
/-! ### a lambda is made -/
theorem Tr.made {P : Addr} {q : Str} (o : Ok G Z S H env σ) (m : MadeL P q G.T H H1) : Tr G Z S H env σ S H1 env σ ∧ ∀ a, H1 a = none → H a = none := by
  obtain ⟨tb, m⟩ := m
  rcases m with m | ⟨ps, more, c2, hP, hc, m⟩
  · subst m; exact ⟨Tr.refl o, fun _ e => e⟩
  · have k : ∀ a ob, H a = some ob → (∀ ps, ob ≠ .tbl ps) → H1 a = some ob := fun a ob e n => by
      rw [m, upd_ne (ne_of_none e hc), upd_ne (fun z => by rw [z, hP] at e; exact n ps (Option.some.inj e).symm)]
      exact e
    have th : ∀ a, H a ≠ none → H1 a ≠ none := fun a e => by
      rw [m]
      by_cases h1 : a = c2
      · subst h1; rw [upd_same]; simp
      · rw [upd_ne h1]
        by_cases h2 : a = P
        · subst h2; rw [upd_same]; simp
        · rw [upd_ne h2]; exact e
    have kk : ∀ a, S a → S a ∧ ∀ ob, H a = some ob → H1 a = some ob := fun a s => ⟨s, fun ob e => k a ob e fun ps z => o.nt a s ps (by rw [e, z])⟩
    refine ⟨⟨⟨fun a ob e _ n => k a ob e n, th, fun _ s => s, fun _ s => .inl s⟩, ⟨tb, fun a s ps z => ?_, fun a s => th a (o.tr a s), fun a e => th a (o.old a e), o.len, fun i d e => ?_, fun i io xs e => ?_, o.inj, o.io, o.fr⟩, fun a e => .inl e⟩, fun a e => ?_⟩
    · cases q : H a with
      | none => exact o.tr a s q
      | some ob => rw [(kk a s).2 ob q] at z; cases z; exact o.nt a s ps q
    · obtain ⟨v, h1, h2⟩ := o.val i d e
      exact ⟨v, h1, h2.keep kk⟩
    · obtain ⟨a, vs, h1, h2, h3, h4⟩ := o.own i io xs e
      exact ⟨a, vs, h1, k a _ h2 (fun _ z => by cases z), h3, h4.keep kk⟩
    · cases q : H a with
      | none => rfl
      | some ob => exact absurd e (th a (by rw [q]; simp))

/-! ### the law's own word for an error -/
inductive MA where
  | txt (t : Str)
  | rep (pre f : Str)
  | raw (f : Str)
  | ix (f : Str) (j : Int)
def metOf (xm : Str → Str → Option Bool) (fld : Str → Option Str) : List (Str × MA) → Ex → Option D
  | [], _ => none
  | (c, m) :: r, x => match xm x.cls c with
    | some false => metOf xm fld r x
    | some true => (match m with
      | .txt t => some (.str t)
      | .raw f => if x.cls = c ∧ fld c = some f then x.val else none
      | .ix f j => if x.cls = c ∧ fld c = some f then (match x.val with
        | some d => gIx d (.int j)
        | none => none) else none
      | .rep pre f => if x.cls = c ∧ fld c = some f then (match x.val with
        | some d => (match gRepr [d] with
          | some s => gAdd (.str pre) s
          | none => none)
        | none => none) else none)
    | none => none
def eMet (mo : Ex → Option D) (fine : Str) (f : M D) : M D := fun env => match f env with
  | .ok _ e => .ok (.str fine) e
  | .exc x e => (match mo x with
    | some d => .ok d e
    | none => .stuck)
  | .stuck => .stuck
def caG (G : Gx) (c : Str) : Addr := match G.mg c with
  | some (.ref C) => C
  | _ => 0
theorem caG_eq {c : Str} {C : Addr} (h : G.mg c = some (.ref C)) : caG G c = C := by unfold caG; rw [h]
def clOf (G : Gx) (i : Nat) : Str × MA → Cl
  | (c, .txt t) => (.ref (caG G c), none, fun _ _ _ => tRet (tC (.str t)))
  | (c, .raw f) => (.ref (caG G c), some i, fun a cls d => tRet (tXf a cls d (caG G c) f (tVar i)))
  | (c, .ix f j) => (.ref (caG G c), some i, fun a cls d => tRet (tOp (rIxA G.K) (tXf a cls d (caG G c) f (tVar i)) (tC (.int j))))
  | (c, .rep pre f) => (.ref (caG G c), some i, fun a cls d => tRet (tOp (rAdd G.K) (tC (.str pre)) (tCB (rRepr G.K) (tCons (tXf a cls d (caG G c) f (tVar i)) tNil))))
theorem met_post {xm : Str → Str → Option Bool} {fld : Str → Option Str} {i n : Nat} {x : Ex} {r : D} {cls : Value} {dd : Option Addr} {σZ : L2.St} {En : Ends} (o : Ok G Z S H env σ) (hn : σZ.length = n) (hi : i < n)
    (hxm : ∀ a b v, xm a b = some v → ∃ A B, G.mg a = some (.ref A) ∧ G.mg b = some (.ref B) ∧ PySem.W.exmOne G.K (.ref A) (.ref B) = some v) (hfld : ∀ c f, fld c = some f → G.fld c = f) (rx : ExRp G S H x cls dd) :
    ∀ l, metOf xm fld l x = some r → (∀ S' H', Tr G Z S H env σ S' H' env σ → ∀ v, Rp G S' H' r v → En.rt v H') → wMix G.K (fun _ _ _ _ => False) En (l.map (clOf G i)) cls dd σZ H
  | [], e, _ => by cases e
  | (c, m) :: l, e, fin => by
    obtain ⟨C, hC, ec, hv⟩ := rx
    unfold metOf at e
    cases hx : xm x.cls c with
    | none => rw [hx] at e; cases e
    | some b =>
      obtain ⟨A, B, a1, a2, a3⟩ := hxm _ _ _ hx
      rw [hC] at a1; cases a1
      have eB : caG G c = B := by unfold caG; rw [a2]
      rw [hx] at e
      cases b with
      | false =>
        have ih := met_post (En := En) o hn hi hxm hfld ⟨C, hC, ec, hv⟩ l e fin
        cases m with
        | txt t => exact ⟨false, by rw [ec]; show PySem.W.exmOne _ _ (.ref (caG G c)) = _; rw [eB]; exact a3, fun z => (by cases z), fun _ => ih⟩
        | raw f => exact ⟨false, by rw [ec]; show PySem.W.exmOne _ _ (.ref (caG G c)) = _; rw [eB]; exact a3, fun z => (by cases z), fun _ => ih⟩
        | ix f j => exact ⟨false, by rw [ec]; show PySem.W.exmOne _ _ (.ref (caG G c)) = _; rw [eB]; exact a3, fun z => (by cases z), fun _ => ih⟩
        | rep p f => exact ⟨false, by rw [ec]; show PySem.W.exmOne _ _ (.ref (caG G c)) = _; rw [eB]; exact a3, fun z => (by cases z), fun _ => ih⟩
      | true =>
        have hb : PySem.W.exmOne G.K cls (.ref (caG G c)) = some true := by rw [ec, eB]; exact a3
        have field : ∀ (f : Str) (d : D), x.cls = c ∧ fld c = some f → x.val = some d → ∀ (a : Addr) (Q : VK), (∀ v, Rp G S H d v → Q v H) → tXf a cls dd (caG G c) f (tVar i) (σZ.set i (some (.ref a))) H Q := fun f d hc hd a Q hq => by
          rw [hd] at hv
          obtain ⟨a', v, e1, e2, e3, e4⟩ := hv
          have hf := hfld _ _ hc.2
          rw [hc.1, hf] at e3
          have eC : B = C := by rw [hc.1] at hC; rw [hC] at a2; cases a2; rfl
          refine ⟨.ref a, List.getElem?_set_self (by rw [hn]; exact hi), rfl, by rw [ec, eB, eC], a', _, v, e1, e3, by simp [List.lookup], hq v e4⟩
        cases m with
        | txt t =>
          cases e
          exact ⟨true, hb, fun _ a _ => fin S H (Tr.refl o) _ (.str t), fun z => (by cases z)⟩
        | raw f =>
          simp only at e
          split at e
          · rename_i hc
            exact ⟨true, hb, fun _ a _ => field f r hc e a _ fun v rv => fin S H (Tr.refl o) v rv, fun z => (by cases z)⟩
          · cases e
        | ix f j =>
          simp only at e
          split at e
          · rename_i hc
            split at e
            · rename_i d hd
              refine ⟨true, hb, fun _ a _ => ?_, fun z => (by cases z)⟩
              show tXf a cls dd (caG G c) f (tVar i) (σZ.set i (some (.ref a))) H (fun x H1 => tC (V.int j) (σZ.set i (some (.ref a))) H1 fun y H2 => rIxA G.K x y H2 En.rt)
              refine field f d hc hd a _ fun v rv => ?_
              exact d_ix Z S H env σ d (.int j) r v (.int j) _ o rv (.int j) e fun S3 H3 t3 _ w rw' => fin S3 H3 t3 w rw'
            · cases e
          · cases e
        | rep p f =>
          simp only at e
          split at e
          · rename_i hc
            split at e
            · rename_i d hd
              split at e
              · rename_i s hs
                refine ⟨true, hb, fun _ a _ => ?_, fun z => (by cases z)⟩
                show tCB (rRepr G.K) (tCons (tXf a cls dd (caG G c) f (tVar i)) tNil) (σZ.set i (some (.ref a))) H _
                show tXf a cls dd (caG G c) f (tVar i) (σZ.set i (some (.ref a))) H _
                refine field f d hc hd a _ fun v rv => ?_
                refine d_repr Z S H env σ [d] s [v] _ o (.cons rv .nil) hs fun S2 H2 t2 pu u ru => ?_
                exact d_add Z S2 H2 env σ (.str p) s r (.str p) u _ t2.ok (.str p) ru e fun S3 H3 t3 _ w rw' => fin S3 H3 (t2.trans t3) w rw'
              · cases e
            · cases e
          · cases e

/-! ### its text -/
inductive HdM (i : Nat) (Ng : List Str) (sg : Scope) : List ExceptHandler → List (Str × MA) → Prop
  | nil : HdM i Ng sg [] []
  | txt {c t : Str} {np p5 p6 p' : Pos} {j : Nat} {hds : List ExceptHandler} {l : List (Str × MA)} : sg.names.lookup c = some .globalImplicit → (c == ("__debug__" : Str)) = false → HdM i Ng sg hds l →
      HdM i Ng sg (.ExceptHandler (some (.Name c np)) none [.Return (some (.Constant (.str t) j p5)) p6] p' :: hds) ((c, .txt t) :: l)
  | raw {c n f : Str} {np p5 p6 p7 p' : Pos} {hds : List ExceptHandler} {l : List (Str × MA)} : sg.names.lookup c = some .globalImplicit → (c == ("__debug__" : Str)) = false → Ng[i]? = some n → sg.names.lookup n = some .local →
      (n == ("__debug__" : Str)) = false → (n == ("__classdict__" : Str)) = false → HdM i Ng sg hds l →
      HdM i Ng sg (.ExceptHandler (some (.Name c np)) (some n) [.Return (some (.Attribute (.Name n p5) f p6)) p7] p' :: hds) ((c, .raw f) :: l)
  | ix {c n f : Str} {np p3 p4 p5 p6 p7 p' : Pos} {j : Nat} {z : Int} {hds : List ExceptHandler} {l : List (Str × MA)} : sg.names.lookup c = some .globalImplicit → (c == ("__debug__" : Str)) = false → Ng[i]? = some n → sg.names.lookup n = some .local →
      (n == ("__debug__" : Str)) = false → (n == ("__classdict__" : Str)) = false → HdM i Ng sg hds l →
      HdM i Ng sg (.ExceptHandler (some (.Name c np)) (some n) [.Return (some (.Subscript (.Attribute (.Name n p5) f p6) (.Constant (.int z) j p3) p4)) p7] p' :: hds) ((c, .ix f z) :: l)
  | rep {c n pre f : Str} {np p3 p4 p5 p6 p7 p8 p9 p' : Pos} {j : Nat} {hds : List ExceptHandler} {l : List (Str × MA)} : sg.names.lookup c = some .globalImplicit → (c == ("__debug__" : Str)) = false → Ng[i]? = some n → sg.names.lookup n = some .local →
      (n == ("__debug__" : Str)) = false → (n == ("__classdict__" : Str)) = false → sg.names.lookup ("repr" : Str) = some .globalImplicit → HdM i Ng sg hds l →
      HdM i Ng sg (.ExceptHandler (some (.Name c np)) (some n) [.Return (some (.BinOp (.Constant (.str pre) j p3) .Add (.Call (.Name "repr" p4) [.Attribute (.Name n p5) f p6] [] p7) p8)) p9] p' :: hds) ((c, .rep pre f) :: l)
/-- what the clauses need of the classes -/
def MaOk (G : Gx) : Str × MA → Prop
  | (c, .txt _) => ∃ C, G.mg c = some (.ref C)
  | (c, .raw f) => ∃ C, G.mg c = some (.ref C) ∧ XfC G.K C ∧ PySem.W.findIn G.K (.ref C) f = some none
  | (c, .ix f _) => ∃ C, G.mg c = some (.ref C) ∧ XfC G.K C ∧ PySem.W.findIn G.K (.ref C) f = some none
  | (c, .rep _ f) => ∃ C, G.mg c = some (.ref C) ∧ XfC G.K C ∧ PySem.W.findIn G.K (.ref C) f = some none
theorem mix_of {Y : Cx} {i : Nat} {sg : Scope} (hK : Y.K = G.K) (hm : Y.mg = G.mg) (hs : Y.env.scope = sg) (hgd : Y.A.guards = some []) (hu : Y.A.units + 70 < cLine) (hr : G.mg "repr" = none) : ∀ {hds : List ExceptHandler} {l : List (Str × MA)}, HdM i Y.N sg hds l → (∀ q ∈ l, MaOk G q) → Mix Y hds (l.map (clOf G i)) := by
  intro hds l h
  have gl : ∀ {c : Str}, sg.names.lookup c = some .globalImplicit → Gl Y c := fun {c} e => by
    show Y.env.scope.names.lookup c = _
    rw [hs]; exact e
  have kof : ∀ {c : Str}, sg.names.lookup c = some .local → Y.env.kindOf c = some .local := fun {c} e => by
    show Y.env.scope.names.lookup c = _
    rw [hs]; exact e
  induction h with
  | nil => exact fun _ => .nil
  | txt h1 h2 _ ih =>
    intro hq
    obtain ⟨C, hC⟩ := hq _ List.mem_cons_self
    refine .pl ⟨gl h1, h2, .inl (by rw [hm, hC]; unfold caG; rw [hC])⟩ (fun a oe cls d pn _ _ => pss_one (ps_ret pe_str)) (ih fun q z => hq q (List.mem_cons_of_mem _ z))
  | raw h1 h2 h3 h4 h5 h6 _ ih =>
    intro hq
    obtain ⟨C, hC, xf, nf⟩ := hq _ List.mem_cons_self
    have eC := caG_eq hC
    refine .as ⟨gl h1, h2, .inl (by rw [hm, hC, eC])⟩ h3 (kof h4) (fun a oe cls d pn hz hf => pss_one (ps_ret (pe_xf (by rw [eC]; exact (show XfC Y.K C by rw [hK]; exact xf)) (by rw [eC]; exact (show PySem.W.findIn Y.K _ _ = _ by rw [hK]; exact nf)) hz hf (pe_var h3 (.inl (kof h4)) h5 h6)))) (ih fun q z => hq q (List.mem_cons_of_mem _ z))
  | ix h1 h2 h3 h4 h5 h6 _ ih =>
    intro hq
    obtain ⟨C, hC, xf, nf⟩ := hq _ List.mem_cons_self
    have eC := caG_eq hC
    refine .as ⟨gl h1, h2, .inl (by rw [hm, hC, eC])⟩ h3 (kof h4) (fun a oe cls d pn hz hf => pss_one (ps_ret (pe_ix (by rw [← hK]; exact ix_A (X := Y.suite a ((a, oe) :: pn))) (pe_xf (by rw [eC]; exact (show XfC Y.K C by rw [hK]; exact xf)) (by rw [eC]; exact (show PySem.W.findIn Y.K _ _ = _ by rw [hK]; exact nf)) hz hf (pe_var h3 (.inl (kof h4)) h5 h6)) pe_int (fun _ _ => rfl)))) (ih fun q z => hq q (List.mem_cons_of_mem _ z))
  | rep h1 h2 h3 h4 h5 h6 h7 _ ih =>
    intro hq
    obtain ⟨C, hC, xf, nf⟩ := hq _ List.mem_cons_self
    have eC := caG_eq hC
    refine .as ⟨gl h1, h2, .inl (by rw [hm, hC, eC])⟩ h3 (kof h4) (fun a oe cls d pn hz hf => pss_one (ps_ret (pe_op (by rw [← hK]; exact op_addD (X := Y.suite a ((a, oe) :: pn))) pe_str (pe_callB (by rw [← hK]; exact call_reprA (X := Y.suite a ((a, oe) :: pn)) hgd hu) (gl h7) (by show Y.mg "repr" = none; rw [hm]; exact hr) PyProof.Rows.boot_repr
      (pa_cons (pe_xf (by rw [eC]; exact (show XfC Y.K C by rw [hK]; exact xf)) (by rw [eC]; exact (show PySem.W.findIn Y.K _ _ = _ by rw [hK]; exact nf)) hz hf (pe_var h3 (.inl (kof h4)) h5 h6)) pa_nil))))) (ih fun q z => hq q (List.mem_cons_of_mem _ z))
end
end PL

set_option maxHeartbeats 4000000
namespace PL
open PySem PySem.Spec PyProof.Rows L2 LamX

section
variable {G : Gx} {Z : Zx} {W : WX} {S S1 S' : Pr} {H H1 H' : Hp} {env env1 env' : Env} {σ σ1 : L2.St} {X : Cx}
/-- the block of the def that calls what it got within a try -/
def metB (G : Gx) (i n : Nat) (l : List (Str × MA)) (fine : Str) : (XK → Hp → VK → Prop) → Hp → VK → Prop := fun tl H Q =>
  ∀ σZ : L2.St, σZ.length = n → tl (fun cls d H' => wMix G.K (fun _ _ _ _ => False) { nx := fun _ H' => Q (.str fine) H', rt := Q } (l.map (clOf G i)) cls d σZ H') H fun _ H' => Q (.str fine) H'
theorem met_gives {Ng : List Str} {x a q fine : Str} {sg : Scope} {g : Addr} {cdv : Value} {k i j : Nat} {p1 p2 p3 p4 p5 p6 : Pos} {h₀ : ExceptHandler} {hds : List ExceptHandler} {l : List (Str × MA)} (hK : X.K = G.K) (hm : X.mg = G.mg) (hgd : X.A.guards = some []) (hr : Room (k + 1) X.A)
    (hrp : G.mg "repr" = none) (hd : HdM i Ng sg (h₀ :: hds) l) (hl : ∀ q ∈ l, MaOk G q) (hNd : Ng.Nodup) (h0 : Ng[0]? = some a) :
    GivesG X Ng x sg g cdv [.Try [.Expr (.Call (.Name a p1) [] [] p2) p3] (h₀ :: hds) [] [] p4, .Return (some (.Constant (.str fine) j p5)) p6] a q (metB G i Ng.length l fine) := by
  intro f c2 s H Q tl act hc hB
  have tr := ps_try_mix (X := (cxOf C8.CX0 X.prog X.w X.K X.mg X.base Ng x sg g cdv X.A X.stack s H C8.E0).nox) (bd := [.Expr (.Call (.Name a p1) [] [] p2) p3]) (h₀ := h₀) (hds := hds) (l := l.map (clOf G i)) (pos := p4) (Wo := fun _ _ _ _ => False)
    (tb := fun W => tDrop fun σZ HZ Q => σZ[0]? = some (some (.ref f)) ∧ HZ c2 = some (CodeO c2 q) ∧ tl (fun cls d H' => W cls d σZ H') HZ Q) rfl rfl hNd takes_none5 (fun W pn xe tk _ => pss_one (ps_expr (act W pn xe p1 p2 tk)))
    (mix_of (Y := (cxOf C8.CX0 X.prog X.w X.K X.mg X.base Ng x sg g cdv X.A X.stack s H C8.E0).nox) (G := G) (sg := sg) hK hm rfl hgd (by show X.A.units + 3 + 70 < _; have := hr.un; omega) hrp hd hl)
  refine ⟨_, pss_cons tr (pss_one (ps_ret pe_str)), ?_⟩
  have hl0 : 0 < Ng.length := (List.getElem?_eq_some_iff.mp h0).1
  have hs : (L2.start Ng [V.ref f])[0]? = some (some (V.ref f)) := rfl
  have hn : (L2.start Ng [V.ref f]).length = Ng.length := by unfold L2.start; simp; omega
  have q1 := hB _ hn
  rw [← hK] at q1
  exact ⟨hs, hc, by rw [hK] at q1 ⊢; exact q1⟩

/-- x(lambda: e), x the law's own word for an error -/
structure MetOk (G : Gx) (x : Str) (l : List (Str × MA)) (fine : Str) : Prop where
  ex : ∃ (g : Addr) (pg : Arguments) (h₀ : ExceptHandler) (hds : List ExceptHandler) (sg : Scope) (dV kV doc pm cdv ct oc : Value) (an od : Option Addr) (osl : Array (Option Value)) (Ng : List Str) (a : Str) (i j : Nat) (p1 p2 p3 p4 p5 p6 : Pos),
    G.mg x = some (.ref g) ∧ PySem.W.keepIn G.K (.ref g) = true ∧ G.K.lookup g = some ⟨oc, od, .func (PySem.W.fnOf x x pg [.Try [.Expr (.Call (.Name a p1) [] [] p2) p3] (h₀ :: hds) [] [] p4, .Return (some (.Constant (.str fine) j p5)) p6] sg dV kV doc pm an cdv ct), osl⟩ ∧
    PySem.W.codeIn G.K cdv x = true ∧ L2.Binds G.K (PySem.W.fnOf x x pg [.Try [.Expr (.Call (.Name a p1) [] [] p2) p3] (h₀ :: hds) [] [] p4, .Return (some (.Constant (.str fine) j p5)) p6] sg dV kV doc pm an cdv ct) [a] [] ∧ FnScope Ng [a] sg ∧
    Ng[0]? = some a ∧ i < Ng.length ∧ (a == ("__debug__" : Str)) = false ∧ (a == ("__classdict__" : Str)) = false ∧ HdM i Ng sg (h₀ :: hds) l
  ma : ∀ q ∈ l, MaOk G q
  rp : G.mg "repr" = none
/-- what a def's context knows of its lambdas' table -/
structure LamOk (G : Gx) (X : Cx) : Prop where
  ex : ∃ c P, TabB X.base X.mg c P ∧ X.env.code = .ref c ∧ (P, X.env.qual ++ "<lambda>") ∈ G.T ∧ ∀ p ∈ G.T, p.1 = P → p.2 = X.env.qual ++ "<lambda>"
theorem se_met {xm : Str → Str → Option Bool} {fld : Str → Option Str} {x fine : Str} {l : List (Str × MA)} {k : Nat} {params : Arguments} {body : Expr} {scope : Scope} {f : M D} {p lpos pos : Pos} (hK : X.K = G.K) (hm : X.mg = G.mg) (hgd : X.A.guards = some []) (hr : Room (k + 2) X.A) (hg : Gl X x) (hM : MetOk G x l fine) (hL : LamOk G X)
    (hxm : ∀ a b v, xm a b = some v → ∃ A B, G.mg a = some (.ref A) ∧ G.mg b = some (.ref B) ∧ PySem.W.exmOne G.K (.ref A) (.ref B) = some v) (hfld : ∀ c f, fld c = some f → G.fld c = f) (L : LamS X.env.scope scope) (hdef : defaultsOf params X.env = ([], []))
    (hbind : ∀ (q : Str) (cl : List (Str × Addr)) (pm cv ctv : Value), bindArgs (PySem.W.kla_fn "<lambda>" q params body scope cl pm cv ctv) ⟨[], []⟩ = pure [])
    (hbody : ∀ (A : Around) (outer : List PySem.Env) (s : Shared) (H : Hp) (E : XK) (fa c2 : Addr), Room k (A.deeper (lamEnv X scope s.heap.objs.size fa c2)) → A.guards = some [] → PE (lamCx X A outer s H E scope fa c2) body (tOf G Z (fun cls d _ H => E cls d H) f)) (hdb : (x == ("__debug__" : Str)) = false) :
    PE X (.Call (.Name x p) [.Lambda params body scope lpos] [] pos) (tOf G Z W (eMet (metOf xm fld l) fine f)) := by
  obtain ⟨g, pg, h₀, hds, sg, dV, kV, doc, pm, cdv, ct, oc, an, od, osl, Ng, a, i, j, p1, p2, p3, p4, p5, p6, m1, m2, m3, m4, m5, m6, m7, m8, m9, m10, m11⟩ := hM.ex
  obtain ⟨c, P, tb, hcode, hT, hu⟩ := hL.ex
  have va : Vis sg a := (m6.par a List.mem_cons_self).elim .inl fun z => .inr (.inl z)
  refine pe_imp (pe_lamG (T := G.T) (B := metB G i Ng.length l fine) (k := k) hg (by rw [hm]; exact m1) (by rw [hK]; exact m2) (by rw [hK]; exact m3) (by rw [hK]; exact m4) (by rw [hK]; exact m5) m6 m7 va
    (met_gives (k := k + 1) hK hm hgd hr hM.rp m11 hM.ma m6.nd m7) tb hcode hT hu hr hgd L hdef hbind (t := fun E => tOf G Z (fun cls d _ H => E cls d H) f) hbody hdb m9 m10) fun σ H Q ⟨S, env, o, q⟩ => ?_
  refine ⟨o.tb, fun H1 md σZ hn => ?_⟩
  obtain ⟨t1, _⟩ := Tr.made o md
  refine ⟨S, env, t1.ok, ?_⟩
  unfold eMet at q
  cases ef : f env with
  | stuck => rw [ef] at q; exact q.elim
  | ok r e1 =>
    rw [ef] at q
    exact fun S' H' t v _ => q S' H' (t1.trans t) _ (.str fine)
  | exc x e1 =>
    rw [ef] at q
    intro S' H' cls dd t rx
    cases em : metOf xm fld l x with
    | none =>
      simp only [em] at q
      exact q.elim
    | some d =>
      simp only [em] at q
      exact met_post t.ok hn m8 hxm hfld rx l em fun S2 H2 t2 v rv => q S2 H2 ((t1.trans t).trans t2) v rv

/-! ### a def called that a slot holds -/
theorem pe_callD {k j : Nat} {a : Str} {e : Expr} {es : List Expr} {t : TA} {p pos : Pos} (hv : PE X (.Name a p) (tVar j)) (hr : Room k X.A) (hG : X.A.guards = some []) (tk : Takes X W) (ha : PA X (e :: es) t)
    (he : starEach (e :: es) X.env = (false, eval e X.env) :: starEach es X.env) (hpl : (backTo pos (starEach es X.env)).any (·.1) = false) :
    PE X (.Call (.Name a p) (e :: es) [] pos) (fun σ H Q => ∃ f fd ps sp, σ[j]? = some (some (.ref f)) ∧ FnG X.prog X.w X.K X.mg X.base k f fd ps sp ∧ PySem.W.keepIn X.K (.ref f) = true ∧ L2.Binds X.K fd ps [] ∧ tCallW sp W t σ H Q) := by
  refine ⟨fun pins s σ H Q I h => ?_⟩
  obtain ⟨f, fd, ps, sp, h1, h2, h3, h4, h5⟩ := h
  refine wpAny_Call_Name_kw (thn (hv.run pins s σ H (fun v H1 => v = .ref f ∧ H1 = H) I ⟨.ref f, h1, rfl, rfl⟩) fun u s1 ⟨v, H1, I1, r1, ev, eH⟩ => ?_)
  subst ev
  rw [eH] at I1
  obtain rfl : u = Value.ref f := r1
  refine PySem.W.callWith_K (h₀ := X.base) I1.ok.mod.kin h3 (thn (ha.run pos pins s1 σ H _ I1 h5) fun us s2 ⟨vs, H2, I2, r, q⟩ => ⟨I2.kIn, ?_⟩) he hpl
  exact run_fnW h2 hr hG h4 tk I2 r q
def eCallD (tab : Str → Option (Nat × Fn)) (j : Nat) (fa : M (List AV)) : M D := fun env => match env[j]? with
  | some (.val (.fn y)) => (match tab y with
    | some (np, F) => eCallL (List.replicate np false) np F fa env
    | none => .stuck)
  | _ => .stuck
theorem se_callD {N : List Str} {sc : Scope} {k j : Nat} {a : Str} {e : Expr} {es : List Expr} {fa : M (List AV)} {p pos : Pos} {tab : Str → Option (Nat × Fn)} (xo : XOk X N sc G k) (tk : Takes X W) (hv : PE X (.Name a p) (tVar j)) (hF : ∀ y np F, tab y = some (np, F) → FnAt X.prog X.w G X.base k y np F)
    (ha : PA X (e :: es) (tOfB G Z W fa)) (he : starEach (e :: es) X.env = (false, eval e X.env) :: starEach es X.env) (hpl : (backTo pos (starEach es X.env)).any (·.1) = false) :
    PE X (.Call (.Name a p) (e :: es) [] pos) (tOf G Z W (eCallD tab j fa)) := by
  refine pe_imp (pe_callD hv xo.room xo.guards tk ha he hpl) fun σ H Q ⟨S, env, o, q⟩ => ?_
  unfold eCallD at q
  split at q
  · rename_i y hy
    split at q
    · rename_i np F hT
      obtain ⟨v, h1, h2⟩ := o.val j _ hy
      obtain ⟨f, fd, ps, m1, m2, m3, m4⟩ := (hF y np F hT).ex
      cases h2 with
      | fn m =>
        rw [m1] at m; cases m
        refine ⟨f, fd, ps, spOf G np F, h1, by rw [xo.K, xo.mg]; exact m4, by rw [xo.K]; exact m2, by rw [xo.K]; exact m3, ?_⟩
        exact tCallL_of (fun _ _ _ z => z) ⟨S, env, o, q⟩
    · exact q.elim
  · exact q.elim

/-! ### raise -/
def sRaise0 (x : Str) : M O := fun env => .exc ⟨x, none⟩ env
theorem ss_raise0 {x m : Str} {j : Nat} {C : Addr} {bmB : List Value} {B newId initId : String} {p p2 pos pos' : Pos} (hc : X.calm = true) (tk : Takes X W) (F : ExcBaseFacts B newId initId bmB) (q : PySem.W.excIn X.K C bmB newId = true) (gC : X.mg x = some (.ref C)) (hm : X.mg = G.mg) (kC : PySem.W.keepIn X.K (.ref C) = true) (r : Raises X (.ref C))
    (hg : Gl X x) (hdb : (x == ("__debug__" : Str)) = false) : PS X (.Raise (some (.Call (.Name x p) [.Constant (.str m) j p2] [] pos)) none pos') (tOfS G Z W (sRaise0 x)) :=
  ps_imp (ps_raise hc tk (pmk_own F q gC kC r hg hdb)) fun D σ H ⟨S, env, o, post⟩ => post S H σ (.ref C) none (Tr.refl o) ⟨C, by rw [← hm]; exact gC, rfl, rfl⟩
def sRaise1 (x : Str) (f : M D) : M O := bnd f fun d env => .exc ⟨x, some d⟩ env
theorem ss_raise1 {x f : Str} {C : Addr} {e : Expr} {fe : M D} {p pos pos' : Pos} {B newId initId : String} {bmB : List Value} {fI cc cda : Addr} {k : Nat} (hc : X.calm = true) (tk : Takes X W) (T : VcK X.prog X.K C f B newId initId bmB fI cc cda) (kC : PySem.W.keepIn X.K (.ref C) = true)
    (r : Raises X (.ref C)) (hr : Room k X.A) (hg : Gl X x) (gC : X.mg x = some (.ref C)) (hm : X.mg = G.mg) (hf : G.fld x = f) (hs : X.mg "super" = none) (hdb : (x == ("__debug__" : Str)) = false) (he : PE X e (tOf G Z W fe)) (hst : starEach [e] X.env = [(false, eval e X.env)]) :
    PS X (.Raise (some (.Call (.Name x p) [e] [] pos)) none pos') (tOfS G Z W (sRaise1 x fe)) :=
  ps_imp (ps_raise hc tk (pmk_val T kC r hr hg gC hs hdb he hst)) fun D σ H ⟨S, env, o, post⟩ => by
    refine tOf.go o (PostX.bindE post) fun d S1 H1 env1 v t1 rv q1 dx hdx => ?_
    have ta := Tr.alloc (ob := .xd [(f, v)]) t1.ok hdx True (.inr trivial) (fun ps z => by cases z)
    exact q1 _ _ σ (.ref C) (some dx) ta ⟨C, by rw [← hm]; exact gC, rfl, dx, v, rfl, .inr ⟨trivial, rfl⟩, by rw [upd_same, hf], ta.rp t1.ok rv⟩
end
end PL

namespace PL
open PySem PySem.Spec PyProof.Rows L2
section
variable {G : Gx} {Z : Zx} {W : WX} {X : Cx}
/-- {} -/
def eC0 (_ : List D) : M D := ret (.dct [])
theorem se_dct0 {pos : Pos} : PE X (.Dict [] [] pos) (tOf G Z W (eC0 [])) := pe_imp pe_dnewK fun σ H Q ⟨S, env, o, q⟩ p hp => by
  have t := Tr.alloc (ob := .dK []) o hp True (.inr trivial) (fun ps z => by cases z)
  exact q _ _ t _ (.dct (.inr ⟨trivial, rfl⟩) (by rw [upd_same]) .nil)
end
end PL

namespace PL
open PySem PySem.Spec PyProof.Rows L2
section
variable {G : Gx} {Z : Zx} {W : WX} {S S0 S1 S2 S' : Pr} {H H0 H1 H2 H' : Hp} {env env1 env2 env' : Env} {σ σ1 : L2.St} {X : Cx} {a b c e : Expr} {pos : Pos}

/-! ### nothing is told -/
def eStuck {α : Type} : M α := fun _ => .stuck
theorem se_stuck : PE X e (tOf G Z W eStuck) := ⟨fun _ _ _ _ _ _ ⟨_, _, _, q⟩ => q.elim⟩
theorem sf_stuck : PE X e (tOfF G Z W eStuck) := ⟨fun _ _ _ _ _ _ ⟨_, _, _, q⟩ => q.elim⟩
theorem su_stuck : PE X e (tOfU G Z W eStuck) := ⟨fun _ _ _ _ _ _ ⟨_, _, _, q⟩ => q.elim⟩
theorem st_stuck : PT X e (tOfT G Z W eStuck) := ⟨fun _ _ _ _ _ _ ⟨_, _, _, q⟩ => q.elim⟩
theorem sw_stuck : PW X e (tOfT G Z W eStuck) := ⟨fun _ _ _ _ _ _ _ ⟨_, _, _, q⟩ => q.elim⟩
theorem sa_stuck {es : List Expr} : PA X es (tOfA G Z W eStuck) := ⟨fun _ _ _ _ _ _ _ ⟨_, _, _, q⟩ => q.elim⟩
theorem sb_stuck {es : List Expr} : PA X es (tOfB G Z W eStuck) := ⟨fun _ _ _ _ _ _ _ ⟨_, _, _, q⟩ => q.elim⟩
theorem sua_stuck {es : List Expr} : PA X es (tOfUA G Z W eStuck) := ⟨fun _ _ _ _ _ _ _ ⟨_, _, _, q⟩ => q.elim⟩
theorem si_stuck {tg : Expr} : PI X tg e (tOfI G Z W eStuck) := ⟨fun _ _ _ _ _ _ ⟨_, _, _, q⟩ => q.elim⟩
theorem stt_stuck {ifs : List Expr} : PTs X ifs (tOfT G Z W eStuck) := ⟨fun _ _ _ _ _ _ ⟨_, _, _, q⟩ => q.elim⟩
theorem sss_stuck {sts : List Stmt} : PSs X sts (tOfS G Z W sStuck) := pss_imp pss_never fun D σ H ⟨S, env, o, q⟩ => q.elim
theorem so_stuck {eo : Option Expr} : PO X eo (tOfO G Z W eStuck) := ⟨fun _ _ _ _ _ _ ⟨_, _, _, q⟩ => q.elim⟩

/-! ### lending -/
def scal : D → Bool
  | .non => true
  | .bl _ => true
  | .int _ => true
  | .str _ => true
  | _ => false
theorem Rp.scal {d : D} {v : V} (h : Rp G S H d v) (e : scal d = true) : Rp G S' H' d v := by
  cases h <;> first
    | exact .non
    | exact .bl _
    | exact .int _
    | exact .str _
    | cases e
def scalO : Option D → Option D
  | some d => if scal d then some d else none
  | none => none
theorem scalO_of {o : Option D} {d : D} (h : scalO o = some d) : o = some d ∧ scal d = true := by
  cases o with
  | none => cases h
  | some z =>
    simp only [scalO] at h
    split at h <;> cases h
    rename_i hs
    exact ⟨rfl, hs⟩
/-- what a slot holds: a value, or an own list (none) -/
def rd (j : Nat) : M (Option D) := fun env => match env[j]? with
  | some (.val d) => .ok (some d) env
  | some (.own _ _) => .ok none env
  | _ => .stuck
def getO (j : Nat) : M (List D) := fun env => match env[j]? with
  | some (.own _ xs) => .ok xs env
  | _ => .stuck
theorem rd_post {α : Type} {j : Nat} {g : Option D → M α} {K : α → Pr → Hp → Env → Prop} (o : Ok G Z S H env σ) (q : Post G Z W (bnd (rd j) g env) S H env σ K) :
    (∃ d v, σ[j]? = some (some v) ∧ Rp G S H d v ∧ Post G Z W (g (some d) env) S H env σ K) ∨ (∃ a vs, σ[j]? = some (some (.ref a)) ∧ H a = some (.lst vs) ∧ Post G Z W (g none env) S H env σ K) := by
  unfold bnd rd at q
  split at q
  · rename_i d e
    obtain ⟨v, h1, h2⟩ := o.val j d e
    exact .inl ⟨d, v, h1, h2, q⟩
  · rename_i io xs e
    obtain ⟨a, vs, h1, h2, _⟩ := o.own j io xs e
    exact .inr ⟨a, vs, h1, h2, q⟩
  · exact q.elim
theorem getO_post {α : Type} {j : Nat} {g : List D → M α} {K : α → Pr → Hp → Env → Prop} (q : Post G Z W (bnd (getO j) g env) S H env σ K) : ∃ io xs, env[j]? = some (.own io xs) ∧ Post G Z W (g xs env) S H env σ K := by
  unfold bnd getO at q
  split at q
  · rename_i io xs e
    exact ⟨io, xs, e, q⟩
  · exact q.elim
/-- a rule's continuation behind a lent list -/
theorem lent_fin {j : Nat} {io : Bool} {xs : List D} {p : Addr} {d : D} {Q : VK} (o : Ok G Z S H env σ) (he : env[j]? = some (.own io xs)) (hs : σ[j]? = some (some (.ref p))) (sc : scal d = true)
    (k : ∀ S' H', Tr G Z S H env σ S' H' env σ → ∀ v, Rp G S' H' d v → Q v H') :
    ∀ S' H', Tr G Z (fun b => S b ∨ b = p) H (env.set j (.val (.lst xs))) σ S' H' (env.set j (.val (.lst xs))) σ → Pu H H' → ∀ v, Rp G S' H' d v → Q v H' :=
  fun S' H' t pu v rv => k _ H' (Tr.lent o he hs t pu) v (rv.scal sc)
theorem lent_rp {j : Nat} {io : Bool} {xs : List D} {p : Addr} (o : Ok G Z S H env σ) (he : env[j]? = some (.own io xs)) (hs : σ[j]? = some (some (.ref p))) : Rp G (fun b => S b ∨ b = p) H (.lst xs) (.ref p) := by
  obtain ⟨a', ws, e1, e2, e3, e4⟩ := o.own j io xs he
  rw [hs] at e1; cases e1
  exact .lst (.inr rfl) e2 (e4.keep fun b s => ⟨.inl s, fun _ e => e⟩)
theorem Rp.more {p : Addr} {d : D} {v : V} (h : Rp G S H d v) : Rp G (fun b => S b ∨ b = p) H d v := h.keep fun b s => ⟨.inl s, fun _ e => e⟩
/-- the left operand is a slot -/
def eOpL (g : D → D → Option D) (j : Nat) (fb : M D) : M D := bnd (rd j) fun o => bnd fb fun y => match o with
  | some x => lif (g x y)
  | none => bnd (getO j) fun xs => lif (scalO (g (.lst xs) y))
theorem tOpL_of {g : D → D → Option D} {r : R2} {j : Nat} {fb : M D} {Q : VK} (hr : OpD G g r) (h : tOf G Z W (eOpL g j fb) σ H Q) : tOp r (tVar j) (tOf G Z W fb) σ H Q := by
  obtain ⟨S, env, o, q⟩ := h
  rcases rd_post o q with ⟨x, v, h1, h2, q⟩ | ⟨p, ws, h1, h2, q⟩
  · refine ⟨v, h1, ?_⟩
    refine tOf.go o (Post.bind q) fun y S1 H1 env1 u t1 ry q1 => ?_
    obtain ⟨d, e, k⟩ := lif_post q1
    exact hr Z S1 H1 env1 σ x y d v u Q t1.ok (t1.rp o h2) ry e fun S' H' t _ => k S' H' t
  · refine ⟨_, h1, ?_⟩
    refine tOf.go o (Post.bind q) fun y S1 H1 env1 u t1 ry q1 => ?_
    obtain ⟨io, xs, he, q2⟩ := getO_post q1
    obtain ⟨d, e, k⟩ := lif_post q2
    obtain ⟨e, sc⟩ := scalO_of e
    exact hr Z _ H1 _ σ (.lst xs) y d _ u Q (Tr.freeze t1.ok he h1).ok (lent_rp t1.ok he h1) ry.more e (lent_fin t1.ok he h1 sc k)
/-- the right operand is a slot -/
def eOpR (g : D → D → Option D) (fa : M D) (j : Nat) : M D := bnd fa fun x => bnd (rd j) fun o => match o with
  | some y => lif (g x y)
  | none => bnd (getO j) fun xs => lif (scalO (g x (.lst xs)))
theorem tOpR_of {g : D → D → Option D} {r : R2} {j : Nat} {fa : M D} {Q : VK} (hr : OpD G g r) (h : tOf G Z W (eOpR g fa j) σ H Q) : tOp r (tOf G Z W fa) (tVar j) σ H Q := by
  obtain ⟨S, env, o, q⟩ := h
  refine tOf.go o (Post.bind q) fun x S1 H1 env1 u t1 rx q1 => ?_
  rcases rd_post t1.ok q1 with ⟨y, v, h1, h2, q⟩ | ⟨p, ws, h1, h2, q⟩
  · obtain ⟨d, e, k⟩ := lif_post q
    exact ⟨v, h1, hr Z S1 H1 env1 σ x y d u v Q t1.ok rx h2 e fun S' H' t _ => k S' H' t⟩
  · obtain ⟨io, xs, he, q2⟩ := getO_post q
    obtain ⟨d, e, k⟩ := lif_post q2
    obtain ⟨e, sc⟩ := scalO_of e
    exact ⟨_, h1, hr Z _ H1 _ σ x (.lst xs) d u _ Q (Tr.freeze t1.ok he h1).ok rx.more (lent_rp t1.ok he h1) e (lent_fin t1.ok he h1 sc k)⟩
theorem se_opL {op : Operator} {g : D → D → Option D} {r : R2} {j : Nat} {fb : M D} (ho : OpR X (binaryOp op) r) (hr : OpD G g r) (ha : PE X a (tVar j)) (hb : PE X b (tOf G Z W fb)) : PE X (.BinOp a op b pos) (tOf G Z W (eOpL g j fb)) :=
  pe_imp (pe_op ho ha hb) fun σ H Q h => tOpL_of hr h
theorem se_cmpL {op : CmpOp} {g : D → D → Option D} {r : R2} {j : Nat} {fb : M D} (ho : OpR X (compareOp op) r) (hr : OpD G g r) (ha : PE X a (tVar j)) (hb : PE X b (tOf G Z W fb)) (hm : behindInMarks op b = false) :
    PE X (.Compare a [op] [b] pos) (tOf G Z W (eOpL g j fb)) := pe_imp (pe_cmpR ho ha hb hm) fun σ H Q h => tOpL_of hr h
theorem se_cmpR {op : CmpOp} {g : D → D → Option D} {r : R2} {j : Nat} {fa : M D} (ho : OpR X (compareOp op) r) (hr : OpD G g r) (ha : PE X a (tOf G Z W fa)) (hb : PE X b (tVar j)) (hm : behindInMarks op b = false) :
    PE X (.Compare a [op] [b] pos) (tOf G Z W (eOpR g fa j)) := pe_imp (pe_cmpR ho ha hb hm) fun σ H Q h => tOpR_of hr h
/-- x[i], x a slot -/
def eIxB (j : Nat) (fi : M D) : M D := bnd (rd j) fun o => bnd fi fun k => match o with
  | some x => lif (gIx x k)
  | none => getIx j k
theorem se_ixB {j : Nat} {ox ix : Expr} {fi : M D} {pos : Pos} (hK : X.K = G.K) (ho : PE X ox (tVar j)) (hi : PE X ix (tOf G Z W fi)) (hs : PlainIx ix) : PE X (.Subscript ox ix pos) (tOf G Z W (eIxB j fi)) :=
  pe_imp (pe_ix ix_A ho hi hs) fun σ H Q ⟨S, env, o, q⟩ => by
    rw [hK]
    rcases rd_post o q with ⟨x, v, h1, h2, q⟩ | ⟨p, ws, h1, h2, q⟩
    · refine ⟨v, h1, ?_⟩
      refine tOf.go o (Post.bind q) fun y S1 H1 env1 u t1 ry q1 => ?_
      obtain ⟨d, e, k⟩ := lif_post q1
      exact d_ix Z S1 H1 env1 σ x y d v u Q t1.ok (t1.rp o h2) ry e fun S' H' t _ => k S' H' t
    · refine ⟨_, h1, ?_⟩
      refine tOf.go o (Post.bind q) fun k S1 H1 env1 u t1 rk q1 => ?_
      replace q1 : Post G Z W (getIx j k env1) S1 H1 env1 σ (KQ G Q) := q1
      unfold getIx at q1
      split at q1
      · rename_i io xs e1
        split at q1
        · rename_i d e2
          obtain ⟨a', us, f1, f2, f3, f4⟩ := t1.ok.own j io xs e1
          rw [h1] at f1; cases f1
          cases rk <;> simp only [gIx] at e2 <;> try contradiction
          rename_i n
          obtain ⟨v, g1, g2⟩ := atI_rp f4 e2
          exact .inl (.inl (.inl ⟨_, us, n, v, rfl, rfl, SqL.of f2, g1, q1 S1 H1 (Tr.refl t1.ok) v g2⟩))
        · exact q1.elim
      · exact q1.elim
/-- f(x), x a slot, f's outcome a number, a truth or a text -/
def eFnB (g : List D → Option D) (j : Nat) : M D := bnd (rd j) fun o => match o with
  | some x => lif (g [x])
  | none => bnd (getO j) fun xs => lif (scalO (g [.lst xs]))
theorem tCBB_of {g : List D → Option D} {r : List V → Hp → VK → Prop} {j : Nat} {Q : VK} (hr : CallD G g r) (h : tOf G Z W (eFnB g j) σ H Q) : tCB r (tCons (tVar j) tNil) σ H Q := by
  obtain ⟨S, env, o, q⟩ := h
  rcases rd_post o q with ⟨x, v, h1, h2, q⟩ | ⟨p, ws, h1, h2, q⟩
  · obtain ⟨d, e, k⟩ := lif_post q
    exact ⟨v, h1, hr Z S H env σ [x] d [v] Q o (.cons h2 .nil) e fun S' H' t _ => k S' H' t⟩
  · obtain ⟨io, xs, he, q2⟩ := getO_post q
    obtain ⟨d, e, k⟩ := lif_post q2
    obtain ⟨e, sc⟩ := scalO_of e
    exact ⟨_, h1, hr Z _ H _ σ [.lst xs] d [_] Q (Tr.freeze o he h1).ok (.cons (lent_rp o he h1) .nil) e (lent_fin o he h1 sc k)⟩
/-- x as a test, x a slot -/
def eTruB (j : Nat) : M Bool := bnd (rd j) fun o => match o with
  | some x => lif (dTru x)
  | none => bnd (getO j) fun xs => ret (!xs.isEmpty)
theorem st_truB {j : Nat} (hK : X.K = G.K) (h : PE X a (tVar j)) (he : ∀ whole, isTrue a X.env whole = (do let v ← whole; standAt a.pos; holding [v] (truthy v))) : PT X a (tOfT G Z W (eTruB j)) :=
  pt_imp (pt_truth h he) fun σ H Q ⟨S, env, o, q⟩ => by
    rcases rd_post o q with ⟨x, v, h1, h2, q⟩ | ⟨p, ws, h1, h2, q⟩
    · obtain ⟨b, e, k⟩ := lif_post q
      exact ⟨v, h1, b, by rw [hK]; exact tru_of h2 e, k S H (Tr.refl o)⟩
    · obtain ⟨io, xs, he, q2⟩ := getO_post q
      obtain ⟨a', us, f1, f2, f3, f4⟩ := o.own j io xs he
      rw [h1] at f1; cases f1
      exact ⟨_, h1, !xs.isEmpty, by rw [hK]; exact .inl ⟨_, SqL.of f2, f4.empty.symm⟩, q2 S H (Tr.refl o)⟩

/-! ### truths as values, values as tests -/
def asB : D → Option Bool
  | .bl b => some b
  | _ => none
def eTB (f : M D) : M Bool := bnd f fun d => lif (asB d)
theorem tTest_of {f : M D} {Q : Bool → Hp → Prop} (h : tOfT G Z W (eTB f) σ H Q) : tOf G Z W f σ H (fun x H' => ∃ k, x = .bl k ∧ Q k H') := by
  obtain ⟨S, env, o, q⟩ := h
  refine tOf.go o (Post.bind q) fun d S1 H1 env1 v t1 rv q1 => ?_
  obtain ⟨b, e, k⟩ := lif_post q1
  cases rv <;> simp only [asB] at e <;> try contradiction
  cases e
  exact ⟨_, rfl, k S1 H1 (Tr.refl t1.ok)⟩
theorem st_cmp {op : CmpOp} {g : D → D → Option D} {r : R2} {fa fb : M D} (ho : OpR X (compareOp op) r) (hr : OpD G g r) (ha : PE X a (tOf G Z W fa)) (hb : PE X b (tOf G Z W fb)) (hm : behindInMarks op b = false) :
    PT X (.Compare a [op] [b] pos) (tOfT G Z W (eTB (eOp g fa fb))) := pt_imp (pt_cmpR ho ha hb hm) fun σ H Q h => tOp_of hr (tTest_of h)
theorem st_cmpL {op : CmpOp} {g : D → D → Option D} {r : R2} {j : Nat} {fb : M D} (ho : OpR X (compareOp op) r) (hr : OpD G g r) (ha : PE X a (tVar j)) (hb : PE X b (tOf G Z W fb)) (hm : behindInMarks op b = false) :
    PT X (.Compare a [op] [b] pos) (tOfT G Z W (eTB (eOpL g j fb))) := pt_imp (pt_cmpR ho ha hb hm) fun σ H Q h => tOpL_of hr (tTest_of h)
theorem st_cmpR {op : CmpOp} {g : D → D → Option D} {r : R2} {j : Nat} {fa : M D} (ho : OpR X (compareOp op) r) (hr : OpD G g r) (ha : PE X a (tOf G Z W fa)) (hb : PE X b (tVar j)) (hm : behindInMarks op b = false) :
    PT X (.Compare a [op] [b] pos) (tOfT G Z W (eTB (eOpR g fa j))) := pt_imp (pt_cmpR ho ha hb hm) fun σ H Q h => tOpR_of hr (tTest_of h)
/-! chains -/
def eChain (g g' : D → D → Option D) (fa fb fc : M D) : M D := bnd fa fun x => bnd fb fun y => bnd (lif ((g x y).bind asB)) fun k => if k then bnd fc fun z => lif (g' y z) else ret (.bl false)
theorem tChain_of {g g' : D → D → Option D} {r r' : R2} {fa fb fc : M D} {Q : VK} (hr : OpD G g r) (hr' : OpD G g' r') (h : tOf G Z W (eChain g g' fa fb fc) σ H Q) : tChain r r' (tOf G Z W fa) (tOf G Z W fb) (tOf G Z W fc) σ H Q := by
  obtain ⟨S, env, o, q⟩ := h
  refine tOf.go o (Post.bind q) fun x S1 H1 env1 v t1 rx q1 => ?_
  refine tOf.go t1.ok (Post.bind q1) fun y S2 H2 env2 u t2 ry q2 => ?_
  have q2' := Post.bind (show Post G Z W ((lif ((g x y).bind asB) env2).bind fun k => if k then bnd fc fun z => lif (g' y z) else ret (.bl false)) S2 H2 env2 σ (KQ G Q) from q2)
  obtain ⟨k, e, q3⟩ := lif_post q2'
  cases hg : g x y with
  | none => rw [hg] at e; cases e
  | some d =>
    rw [hg] at e
    refine hr Z S2 H2 env2 σ x y d v u _ t2.ok (t2.rp t1.ok rx) ry hg fun S3 H3 t3 _ w rw' => ?_
    have q3 := q3 S3 H3 t3
    cases rw' <;> try (cases e; done)
    cases e
    refine ⟨_, rfl, ?_⟩
    split at q3
    · rename_i hk
      rw [if_pos hk]
      refine tOf.go t3.ok (Post.bind q3) fun z S4 H4 env4 w t4 rz q4 => ?_
      obtain ⟨d, e, k⟩ := lif_post q4
      exact hr' Z S4 H4 env4 σ y z d u w Q t4.ok (t4.rp t3.ok (t3.rp t2.ok ry)) rz e fun S' H' t _ => k S' H' t
    · rename_i hk
      rw [if_neg hk]
      exact q3 S3 H3 (Tr.refl t3.ok) _ (.bl false)
theorem se_chain {op op' : CmpOp} {g g' : D → D → Option D} {r r' : R2} {fa fb fc : M D} (ho : OpR X (compareOp op) r) (ho' : OpR X (compareOp op') r') (hr : OpD G g r) (hr' : OpD G g' r') (ha : PE X a (tOf G Z W fa)) (hb : PE X b (tOf G Z W fb)) (hc : PE X c (tOf G Z W fc))
    (hm : lastMarks [op, op'] [b, c] = false) : PE X (.Compare a [op, op'] [b, c] pos) (tOf G Z W (eChain g g' fa fb fc)) := pe_imp (pe_chain ho ho' ha hb hc hm) fun σ H Q h => tChain_of hr hr' h
theorem st_chain {op op' : CmpOp} {g g' : D → D → Option D} {r r' : R2} {fa fb fc : M D} (ho : OpR X (compareOp op) r) (ho' : OpR X (compareOp op') r') (hr : OpD G g r) (hr' : OpD G g' r') (ha : PE X a (tOf G Z W fa)) (hb : PE X b (tOf G Z W fb)) (hc : PE X c (tOf G Z W fc))
    (hm : lastMarks [op, op'] [b, c] = false) : PT X (.Compare a [op, op'] [b, c] pos) (tOfT G Z W (eTB (eChain g g' fa fb fc))) := pt_imp (pt_chain ho ho' ha hb hc hm) fun σ H Q h => tChain_of hr hr' (tTest_of h)
/-! and, or, not as values -/
def eAndV (fa fb : M D) : M D := bnd fa fun x => bnd (lif (dTru x)) fun k => if k then fb else ret x
def eOrV (fa fb : M D) : M D := bnd fa fun x => bnd (lif (dTru x)) fun k => if k then ret x else fb
def eNotV (fa : M D) : M D := bnd fa fun x => lif ((dTru x).map fun k => .bl (!k))
theorem se_and {rest : List Expr} {fa fb : M D} (hK : X.K = G.K) (ha : PE X a (tOf G Z W fa)) (hb : PE X (.BoolOp .And (b :: rest) pos) (tOf G Z W fb)) : PE X (.BoolOp .And (a :: b :: rest) pos) (tOf G Z W (eAndV fa fb)) :=
  pe_imp (pe_andT ha hb) fun σ H Q ⟨S, env, o, q⟩ => by
    refine tOf.go o (Post.bind q) fun x S1 H1 env1 v t1 rx q1 => ?_
    obtain ⟨k, e, q2⟩ := lif_post (Post.bind q1)
    have q2 := q2 S1 H1 (Tr.refl t1.ok)
    refine ⟨k, by rw [hK]; exact tru_of rx e, ?_⟩
    cases k with
    | true => exact ⟨S1, env1, t1.ok, q2⟩
    | false => exact q2 S1 H1 (Tr.refl t1.ok) v rx
theorem se_or {rest : List Expr} {fa fb : M D} (hK : X.K = G.K) (ha : PE X a (tOf G Z W fa)) (hb : PE X (.BoolOp .Or (b :: rest) pos) (tOf G Z W fb)) : PE X (.BoolOp .Or (a :: b :: rest) pos) (tOf G Z W (eOrV fa fb)) :=
  pe_imp (pe_orT ha hb) fun σ H Q ⟨S, env, o, q⟩ => by
    refine tOf.go o (Post.bind q) fun x S1 H1 env1 v t1 rx q1 => ?_
    obtain ⟨k, e, q2⟩ := lif_post (Post.bind q1)
    have q2 := q2 S1 H1 (Tr.refl t1.ok)
    refine ⟨k, by rw [hK]; exact tru_of rx e, ?_⟩
    cases k with
    | false => exact ⟨S1, env1, t1.ok, q2⟩
    | true => exact q2 S1 H1 (Tr.refl t1.ok) v rx
theorem se_notV {fa : M D} (hK : X.K = G.K) (ha : PE X a (tOf G Z W fa)) : PE X (.UnaryOp .Not a pos) (tOf G Z W (eNotV fa)) :=
  pe_imp (pe_notT ha) fun σ H Q ⟨S, env, o, q⟩ => by
    refine tOf.go o (Post.bind q) fun x S1 H1 env1 v t1 rx q1 => ?_
    obtain ⟨d, e, k⟩ := lif_post q1
    cases hd : dTru x with
    | none => rw [hd] at e; cases e
    | some c => rw [hd] at e; cases e; exact ⟨c, by rw [hK]; exact tru_of rx hd, k S1 H1 (Tr.refl t1.ok) _ (.bl _)⟩
/-! fresh lists of operators -/
def gAddF : D → D → Option (List D)
  | .lst xs, .lst ys => if fits (xs.length + ys.length) then some (xs ++ ys) else none
  | _, _ => none
def gRepF : D → D → Option (List D)
  | .lst xs, .int k => if decide (-(2 ^ 63) ≤ k) && decide (k < 2 ^ 63) && fits (xs.length * k.toNat) then some (List.replicate k.toNat xs).flatten else none
  | _, _ => none
def eOpF (g : D → D → Option (List D)) (fa fb : M D) : M (List D) := bnd fa fun a => bnd fb fun b => lif (g a b)
def OpF (G : Gx) (g : D → D → Option (List D)) (r : R2) : Prop :=
  ∀ (S : Pr) (H : Hp) (a b : D) (ds : List D) (x y : V) (Q : VK), Rp G S H a x → Rp G S H b y → g a b = some ds → (∀ p vs, H p = none → RpL G S H ds vs → Q (.ref p) (upd H p (.lst vs))) → r x y H Q
theorem tOpF_of {g : D → D → Option (List D)} {r : R2} {fa fb : M D} {Q : VK} (hr : OpF G g r) (h : tOfF G Z W (eOpF g fa fb) σ H Q) : tOp r (tOf G Z W fa) (tOf G Z W fb) σ H Q := by
  obtain ⟨S, env, o, q⟩ := h
  refine tOf.go o (Post.bind q) fun da S1 H1 env1 x t1 rx q1 => ?_
  refine tOf.go t1.ok (Post.bind q1) fun db S2 H2 env2 y t2 ry q2 => ?_
  obtain ⟨d, e, k⟩ := lif_post q2
  exact hr S2 H2 da db d x y Q (t2.rp t1.ok rx) ry e fun p vs hp r => newF (t1.trans t2) hp r fun S' H' t => k S' H' t
theorem sf_op {op : Operator} {g : D → D → Option (List D)} {r : R2} {fa fb : M D} (ho : OpR X (binaryOp op) r) (hr : OpF G g r) (ha : PE X a (tOf G Z W fa)) (hb : PE X b (tOf G Z W fb)) : PE X (.BinOp a op b pos) (tOfF G Z W (eOpF g fa fb)) :=
  pe_imp (pe_op ho ha hb) fun σ H Q h => tOpF_of hr h
theorem f_cat : OpF G gAddF rCat := by
  intro S H a b ds x y Q ra rb e k
  cases ra <;> cases rb <;> simp only [gAddF] at e <;> try contradiction
  split at e <;> cases e
  rename_i s1 q1 l1 _ _ _ s2 q2 l2 hz
  exact ⟨_, _, _, _, rfl, rfl, q1, q2, by rw [l1.length, l2.length]; exact fits_line hz, fun p hp => k p _ hp (l1.append l2)⟩
theorem f_rep : OpF G gRepF rRep := by
  intro S H a b ds x y Q ra rb e k
  cases ra <;> cases rb <;> simp only [gRepF] at e <;> try contradiction
  rename_i q l n
  split at e <;> cases e
  rename_i hz
  simp only [Bool.and_eq_true, decide_eq_true_eq] at hz
  exact ⟨_, _, _, rfl, rfl, q, hz.1.1, hz.1.2, by rw [l.length]; exact fits_line hz.2, fun p hp => k p _ hp (l.rep _)⟩
end
end PL

namespace PL
open PySem PySem.Spec PyProof.Rows L2
section
variable {X : Cx} {G : Gx} {Z : Zx} {W : WX} {S : Pr} {H : Hp} {σ : L2.St}
/-! ### a op b op' c op'' d -/
def tChain3 (r r' r'' : R2) (ta tb tc td : TE) : TE := fun σ H Q => ta σ H fun x H1 => tb σ H1 fun y H2 => r x y H2 fun z H3 => ∃ k, z = .bl k ∧
  (if k = true then tc σ H3 fun w' H4 => r' y w' H4 fun z2 H5 => ∃ k2, z2 = .bl k2 ∧ (if k2 = true then td σ H5 fun w2 H6 => r'' w' w2 H6 Q else Q (.bl false) H5) else Q (.bl false) H3)
theorem pe_chain3 {op op' op'' : CmpOp} {r r' r'' : R2} {a b c d : Expr} {ta tb tc td : TE} {pos : Pos} (ho : OpR X (compareOp op) r) (ho' : OpR X (compareOp op') r') (ho'' : OpR X (compareOp op'') r'') (ha : PE X a ta) (hb : PE X b tb) (hc : PE X c tc) (hd : PE X d td)
    (hm : lastMarks [op, op', op''] [b, c, d] = false) : PE X (.Compare a [op, op', op''] [b, c, d] pos) (tChain3 r r' r'' ta tb tc td) := by
  refine ⟨fun pins s σ H Q I h => ?_⟩
  refine Compare_chain (thn (ha.run pins s σ H _ I h) fun v s1 ⟨x, H1, I1, r1, q1⟩ => chain_link (thn (hb.run pins s1 σ H1 _ I1 q1) fun u s2 ⟨y, H2, I2, r2, q2⟩ =>
    thn (ho pins s2 σ H2 x y v u _ I2 r1 r2 q2) fun d s3 ⟨z, H3, I3, r3, k, e, q3⟩ => ?_)) hm
  subst e
  cases r3
  refine wpAny_truthy_bool ?_
  cases k with
  | false => exact ite_ff ⟨.bl false, H3, I3, rfl, q3⟩
  | true =>
    refine ite_tt (chain_link (thn (hc.run pins s3 σ H3 _ I3 q3) fun w' s4 ⟨z', H4, I4, r4, q4⟩ => thn (ho' pins s4 σ H4 y z' u w' _ I4 r2 r4 q4) fun d2 s5 ⟨z2, H5, I5, r5, k2, e2, q5⟩ => ?_))
    subst e2
    cases r5
    refine wpAny_truthy_bool ?_
    cases k2 with
    | false => exact ite_ff ⟨.bl false, H5, I5, rfl, q5⟩
    | true => exact ite_tt (chain_last (thn (hd.run pins s5 σ H5 _ I5 q5) fun w2 s6 ⟨z3, H6, I6, r6, q6⟩ => ho'' pins s6 σ H6 z' z3 w' w2 Q I6 r4 r6 q6))
def eChain3 (g g' g'' : D → D → Option D) (fa fb fc fd : M D) : M D := bnd fa fun x => bnd fb fun y => bnd (lif ((g x y).bind asB)) fun k => if k then (bnd fc fun z => bnd (lif ((g' y z).bind asB)) fun k2 => if k2 then bnd fd fun u => lif (g'' z u) else ret (.bl false)) else ret (.bl false)
theorem cmp_step {g : D → D → Option D} {r : R2} {x y : D} {v u : V} {S2 : Pr} {H2 : Hp} {env2 : Env} {f : Bool → M D} {Q : VK} {Q' : Bool → Hp → Prop} (hr : OpD G g r) (o : Ok G Z S2 H2 env2 σ) (rx : Rp G S2 H2 x v) (ry : Rp G S2 H2 y u)
    (q : Post G Z W (bnd (lif ((g x y).bind asB)) f env2) S2 H2 env2 σ (KQ G Q)) (fin : ∀ k S3 H3, Tr G Z S2 H2 env2 σ S3 H3 env2 σ → Post G Z W (f k env2) S3 H3 env2 σ (KQ G Q) → Q' k H3) :
    r v u H2 fun z H3 => ∃ k, z = .bl k ∧ Q' k H3 := by
  have q2' := Post.bind (show Post G Z W ((lif ((g x y).bind asB) env2).bind fun k => f k) S2 H2 env2 σ (KQ G Q) from q)
  obtain ⟨k, e, q3⟩ := lif_post q2'
  cases hg : g x y with
  | none => rw [hg] at e; cases e
  | some d =>
    rw [hg] at e
    refine hr Z S2 H2 env2 σ x y d v u _ o rx ry hg fun S3 H3 t3 _ w rw' => ?_
    have q3 := q3 S3 H3 t3
    cases rw' <;> try (cases e; done)
    cases e
    exact ⟨_, rfl, fin _ S3 H3 t3 q3⟩
theorem tChain3_of {g g' g'' : D → D → Option D} {r r' r'' : R2} {fa fb fc fd : M D} {Q : VK} (hr : OpD G g r) (hr' : OpD G g' r') (hr'' : OpD G g'' r'') (h : tOf G Z W (eChain3 g g' g'' fa fb fc fd) σ H Q) : tChain3 r r' r'' (tOf G Z W fa) (tOf G Z W fb) (tOf G Z W fc) (tOf G Z W fd) σ H Q := by
  obtain ⟨S, env, o, q⟩ := h
  refine tOf.go o (Post.bind q) fun x S1 H1 env1 v t1 rx q1 => ?_
  refine tOf.go t1.ok (Post.bind q1) fun y S2 H2 env2 u t2 ry q2 => ?_
  refine cmp_step hr t2.ok (t2.rp t1.ok rx) ry q2 fun k S3 H3 t3 q3 => ?_
  split at q3
  · rename_i hk
    rw [if_pos hk]
    refine tOf.go t3.ok (Post.bind q3) fun z S4 H4 env4 w t4 rz q4 => ?_
    refine cmp_step hr' t4.ok (t4.rp t3.ok (t3.rp t2.ok ry)) rz q4 fun k2 S5 H5 t5 q5 => ?_
    split at q5
    · rename_i hk2
      rw [if_pos hk2]
      refine tOf.go t5.ok (Post.bind q5) fun z2 S6 H6 env6 w2 t6 rz2 q6 => ?_
      obtain ⟨d, e, k⟩ := lif_post q6
      exact hr'' Z S6 H6 env6 σ z z2 d w w2 Q t6.ok (t6.rp t5.ok (t5.rp t4.ok rz)) rz2 e fun S' H' t _ => k S' H' t
    · rename_i hk2
      rw [if_neg hk2]
      exact q5 S5 H5 (Tr.refl t5.ok) _ (.bl false)
  · rename_i hk
    rw [if_neg hk]
    exact q3 S3 H3 (Tr.refl t3.ok) _ (.bl false)
theorem se_chain3 {op op' op'' : CmpOp} {g g' g'' : D → D → Option D} {r r' r'' : R2} {a b c d : Expr} {fa fb fc fd : M D} {pos : Pos} (ho : OpR X (compareOp op) r) (ho' : OpR X (compareOp op') r') (ho'' : OpR X (compareOp op'') r'') (hr : OpD G g r) (hr' : OpD G g' r') (hr'' : OpD G g'' r'')
    (ha : PE X a (tOf G Z W fa)) (hb : PE X b (tOf G Z W fb)) (hc : PE X c (tOf G Z W fc)) (hd : PE X d (tOf G Z W fd)) (hm : lastMarks [op, op', op''] [b, c, d] = false) : PE X (.Compare a [op, op', op''] [b, c, d] pos) (tOf G Z W (eChain3 g g' g'' fa fb fc fd)) :=
  pe_imp (pe_chain3 ho ho' ho'' ha hb hc hd hm) fun σ H Q h => tChain3_of hr hr' hr'' h
end
end PL

namespace PL
open PySem PySem.Spec PyProof.Rows L2

/-! ### what is known at compile time -/
inductive Bt where
  | len | abs | int | max | min | sum | all | any | sorted | tuple | list | repr | isinstance | range | enumerate | zip | bool | str | dict
inductive GI where
  | fn (np : Nat) (io : List Bool) (F : Fn)
  | cst (d : D)
  | blt (b : Bt)
  | exc (fld : Option Str)
  | met (l : List (Str × MA)) (fine : Str)
structure Gm where
  tab : List (Str × GI)
  fu : Nat
  xm : List ((Str × Str) × Bool)
structure SC where
  N : List Str
  sc : Scope
  st : List (Str × NameKind)
  lam : Bool
  tr : Bool
def xmF (Γ : Gm) (a b : Str) : Option Bool := Γ.xm.lookup (a, b)
def fldF (Γ : Gm) (c : Str) : Option Str := match Γ.tab.lookup c with
  | some (.exc f) => f
  | _ => none
def fnF (Γ : Gm) (y : Str) : Option (Nat × Fn) := match Γ.tab.lookup y with
  | some (.fn np io F) => if io.all (!·) then some (np, F) else none
  | _ => none
def noPar : Arguments → Bool
  | ⟨[], [], none, [], [], none, []⟩ => true
  | _ => false
def Bt.nm : Bt → String
  | .len => "len" | .abs => "abs" | .int => "int" | .max => "max" | .min => "min" | .sum => "sum" | .all => "all" | .any => "any" | .sorted => "sorted" | .tuple => "tuple" | .list => "list" | .repr => "repr"
  | .isinstance => "isinstance" | .range => "range" | .enumerate => "enumerate" | .zip => "zip" | .bool => "bool" | .str => "str" | .dict => "dict"
def Bt.ty : Bt → Option String
  | .int => some "int" | .bool => some "bool" | .str => some "str" | .tuple => some "tuple" | .list => some "list" | .dict => some "dict"
  | _ => none
def idxOf : List Str → Str → Option Nat
  | [], _ => none
  | y :: ys, x => if x = y then some 0 else (idxOf ys x).map (· + 1)
theorem idxOf_at : ∀ {N : List Str} {x : Str} {i : Nat}, idxOf N x = some i → N[i]? = some x
  | [], _, _, h => by cases h
  | y :: ys, x, i, h => by
    unfold idxOf at h
    split at h
    · rename_i e
      cases h; subst e; rfl
    · cases q : idxOf ys x with
      | none => rw [q] at h; cases h
      | some j => rw [q] at h; cases h; simpa using idxOf_at q
def visK : Option NameKind → Bool
  | some .local => true
  | some .cell => true
  | some .free => true
  | _ => false
def stoK : Option NameKind → Bool
  | some .local => true
  | some .cell => true
  | _ => false
def slot (c : SC) (x : Str) : Option Nat := if visK (c.sc.names.lookup x) then idxOf c.N x else none
def stor (c : SC) (x : Str) : Option Nat := if stoK (c.st.lookup x) then idxOf c.N x else none
def isGlob : Option NameKind → Bool
  | some .globalImplicit => true
  | _ => false
def glob (Γ : Gm) (c : SC) (x : Str) : Option GI := if isGlob (c.sc.names.lookup x) then Γ.tab.lookup x else none
def isNm : Expr → Option Str
  | .Name x _ => some x
  | _ => none
def slotE (c : SC) (e : Expr) : Option Nat := (isNm e).bind (slot c)

/-! ### what holds where code runs -/
structure GOk (G : Gx) (X : Cx) (k : Nat) (x : Str) (gi : GI) : Prop where
  db : (x == ("__debug__" : Str)) = false
  is : match gi with
    | .fn np io F => FnAt X.prog X.w G X.base k x np F
    | .cst d => ∃ (v : V) (u : Value), G.mg x = some u ∧ RelV v u ∧ ∀ S H, Rp G S H d v
    | .blt b => x = Str.ofString b.nm ∧ G.mg x = none
    | .exc none => ∃ (C : Addr) (B newId initId : String) (bmB : List Value), ExcBaseFacts B newId initId bmB ∧ PySem.W.excIn G.K C bmB newId = true ∧ G.mg x = some (.ref C) ∧ PySem.W.keepIn G.K (.ref C) = true ∧ PySem.W.subIn G.K (.ref C) (.type "BaseException") = some true ∧ PySem.W.typeIn G.K (.ref C) = some (.type "type")
    | .exc (some f) => ∃ (C : Addr) (B newId initId : String) (bmB : List Value) (fI cc cda : Addr), VcK X.prog G.K C f B newId initId bmB fI cc cda ∧ G.mg x = some (.ref C) ∧ PySem.W.keepIn G.K (.ref C) = true ∧ PySem.W.subIn G.K (.ref C) (.type "BaseException") = some true ∧ PySem.W.typeIn G.K (.ref C) = some (.type "type") ∧ G.mg "super" = none ∧ (XfC G.K C ∧ PySem.W.findIn G.K (.ref C) f = some none) ∧ G.fld x = f
    | .met l fine => MetOk G x l fine
def XmOk (G : Gx) (Γ : Gm) : Prop := ∀ a b v, xmF Γ a b = some v → ∃ A B, G.mg a = some (.ref A) ∧ G.mg b = some (.ref B) ∧ PySem.W.exmOne G.K (.ref A) (.ref B) = some v
structure CtxOk (Γ : Gm) (G : Gx) (X : Cx) (c : SC) (k : Nat) : Prop where
  xo : XOk X c.N c.sc G k
  kind : c.sc.kind = .function
  sto : ∀ x, stoK (c.st.lookup x) = true → Loc X.env.scope x ∧ (X.fn x = true ∨ X.env.scope.names.lookup x = some .local)
  nodeb : ∀ x ∈ c.N, (x == ("__debug__" : Str)) = false ∧ (x == ("__classdict__" : Str)) = false
  tab : ∀ x gi, Γ.tab.lookup x = some gi → GOk G X k x gi
  xm : XmOk G Γ
  lam : c.lam = true → Room (k + 2) X.A ∧ LamOk G X
  top : c.tr = true → X.stack = X.env :: X.outer ∧ X.env.frame = some X.env.locals

section
variable {Γ : Gm} {G : Gx} {Z : Zx} {W : WX} {X : Cx} {c : SC} {k : Nat} {x : Str} {i : Nat} {gi : GI} {pos p : Pos} {e a b : Expr} {es : List Expr}
theorem CtxOk.K (h : CtxOk Γ G X c k) : X.K = G.K := h.xo.K
theorem vis_of {o : Option NameKind} (h : visK o = true) : o = some .local ∨ o = some .cell ∨ o = some .free := by
  unfold visK at h; split at h <;> simp_all
theorem slot_var (h : CtxOk Γ G X c k) (e : slot c x = some i) : PE X (.Name x pos) (tVar i) := by
  unfold slot at e
  split at e <;> try contradiction
  rename_i hv
  have hN := idxOf_at e
  obtain ⟨d1, d2⟩ := h.nodeb x (List.mem_of_getElem? hN)
  refine pe_var (by rw [h.xo.N]; exact hN) ?_ d1 d2
  show X.env.scope.names.lookup x = _ ∨ X.env.scope.names.lookup x = _ ∨ X.env.scope.names.lookup x = _
  rw [h.xo.sc]
  exact vis_of hv
theorem slotE_var (h : CtxOk Γ G X c k) (q : slotE c e = some i) : PE X e (tVar i) := by
  unfold slotE isNm at q
  split at q <;> try contradiction
  exact slot_var h q
theorem stor_at (h : CtxOk Γ G X c k) (e : stor c x = some i) : X.N[i]? = some x ∧ Loc X.env.scope x ∧ (X.fn x = true ∨ X.env.scope.names.lookup x = some .local) := by
  unfold stor at e
  split at e <;> try contradiction
  rename_i hv
  exact ⟨by rw [h.xo.N]; exact idxOf_at e, h.sto x hv⟩
theorem glob_at (h : CtxOk Γ G X c k) (e : glob Γ c x = some gi) : Gl X x ∧ GOk G X k x gi := by
  unfold glob at e
  split at e <;> try contradiction
  rename_i hg
  refine ⟨?_, h.tab x gi e⟩
  show X.env.scope.names.lookup x = _
  rw [h.xo.sc]
  unfold isGlob at hg
  split at hg <;> simp_all
theorem glob_blt {bt : Bt} (h : CtxOk Γ G X c k) (e : glob Γ c x = some (.blt bt)) : x = Str.ofString bt.nm ∧ Gl X (Str.ofString bt.nm) ∧ X.mg (Str.ofString bt.nm) = none := by
  obtain ⟨h1, h2⟩ := glob_at h e
  obtain ⟨e1, e2⟩ := h2.is
  subst e1
  exact ⟨rfl, h1, by rw [h.xo.mg]; exact e2⟩

/-! ### plain checks of the text -/
def notStar : Expr → Bool
  | .Starred .. => false
  | _ => true
theorem star_eq {env : PySem.Env} (h : notStar e = true) : starEach (e :: es) env = (false, eval e env) :: starEach es env := by
  cases e <;> first
    | rfl
    | cases h
def notStars : List Expr → Bool
  | [] => true
  | e :: es => notStar e && notStars es
theorem stars_eq {env : PySem.Env} : ∀ {es : List Expr}, notStars es = true → (backTo pos (starEach es env)).any (·.1) = false
  | [], _ => by simp [starEach, backTo]
  | e :: es, h => by
    unfold notStars at h
    simp only [Bool.and_eq_true] at h
    rw [star_eq h.1]
    have := stars_eq (env := env) h.2
    simpa [backTo] using this
def notSet : Expr → Bool
  | .Set .. => false
  | _ => true
theorem folded_eq {env : PySem.Env} (h : notSet e = true) : ∀ v, foldedSetIterable e env v = pure v := by
  intro v
  cases e <;> first
    | rfl
    | cases h
def notSlice : Expr → Bool
  | .Slice .. => false
  | _ => true
theorem plain_eq (h : notSlice e = true) : PlainIx e := by
  intro o i
  cases e <;> first
    | rfl
    | cases h
def notComp : Expr → Bool
  | .ListComp .. => false
  | .SetComp .. => false
  | .DictComp .. => false
  | _ => true
theorem swaps_eq {env : PySem.Env} {t : Option Expr} {l : Nat} (h : notComp e = true) : swapsWith e t l env = pure false := by
  cases e <;> first
    | rfl
    | cases h
theorem sole_eq {env : PySem.Env} {t : Expr} {l : Nat} (h : notComp e = true) : swapsWithSole [t] e l env = pure false := swaps_eq h
def notTup : Expr → Bool
  | .Tuple .. => false
  | _ => true
theorem noswap_eq {env : PySem.Env} {t : Expr} (h : notTup e = true) : swappedStores [t] e env = pure none := by
  cases e <;> first
    | (cases h; done)
    | (unfold swappedStores; cases t <;> rfl)
def plainT : Expr → Bool
  | .UnaryOp .Not _ _ => false
  | .BoolOp .. => false
  | .IfExp .. => false
  | .Compare .. => false
  | _ => true
theorem truth_eq {env : PySem.Env} (h : plainT e = true) : ∀ whole, isTrue e env whole = (do let v ← whole; standAt e.pos; holding [v] (truthy v)) := by
  intro whole
  cases e with
  | UnaryOp op a p => cases op <;> first | rfl | cases h
  | _ => first | rfl | cases h
theorem assign_eq {env : PySem.Env} {o ix : Expr} (h : notSlice ix = true) : ∀ v, assign (.Subscript o ix pos) env v = (do
      let ov ← holding [v] (eval o env)
      let iv ← holding [v, ov] (eval ix env)
      standAt pos
      holding [v, ov, iv] (setItem ov iv v)
      release [v, ov, iv] []) := by
  intro v
  cases ix <;> first
    | rfl
    | cases h
theorem aug_eq {ix : Expr} (h : notSlice ix = true) : ∀ ov iv new, augStore ix ov iv new = (do holding [new, ov, iv] (setItem ov iv new); release [new, ov, iv] []; pure .next) := by
  intro ov iv new
  cases ix <;> first
    | rfl
    | cases h
theorem each_eq {env : PySem.Env} (h : notStar e = true) : assignEach (e :: es) env = (false, assign e env) :: assignEach es env := by
  cases e <;> first
    | rfl
    | cases h
def nomk : CmpOp → Expr → Bool
  | op, e => !behindInMarks op e
theorem nomk_eq {op : CmpOp} (h : nomk op e = true) : behindInMarks op e = false := by
  unfold nomk at h; simpa using h

/-! ### operators -/
def opB : Operator → Option (D → D → Option D)
  | .Add => some gAdd
  | .Sub => some gSub
  | .Mult => some gMulI
  | .FloorDiv => some gFdiv
  | .Mod => some gMod
  | .Pow => some gPow
  | _ => none
theorem opB_ok (hK : X.K = G.K) {op : Operator} {g : D → D → Option D} (h : opB op = some g) : ∃ r, OpR X (binaryOp op) r ∧ OpD G g r := by
  unfold opB at h
  split at h <;> cases h
  · exact ⟨_, op_addD, by rw [hK]; exact d_add⟩
  · exact ⟨_, op_sub, d_sub⟩
  · exact ⟨_, op_mulD, by rw [hK]; exact d_mul⟩
  · exact ⟨_, op_fdivZ, d_fdiv⟩
  · exact ⟨_, op_mod, d_mod⟩
  · exact ⟨_, op_pow, d_pow⟩
def gAddI : D → D → Option D
  | .int i, .int j => some (.int (i + j))
  | _, _ => none
theorem d_addI : OpD G gAddI (rI0 fun i j => .int (i + j)) := by
  intro Z S H env σ a b d x y Q o ra rb e k
  cases ra <;> cases rb <;> simp only [gAddI] at e <;> try contradiction
  cases e; exact ⟨_, _, rfl, rfl, fin_of o k (.int _)⟩
def opI : Operator → Option (D → D → Option D)
  | .Add => some gAddI
  | .Sub => some gSub
  | _ => none
theorem opI_ok {op : Operator} {g : D → D → Option D} (h : opI op = some g) : ∃ r, OpR X (inplaceOp op) r ∧ OpD G g r := by
  unfold opI at h
  split at h <;> cases h
  · exact ⟨_, iop_add, d_addI⟩
  · exact ⟨_, iop_sub, d_sub⟩
def opC : CmpOp → D → D → Option D
  | .Eq => gEq
  | .NotEq => gNe
  | .Lt => gLt
  | .LtE => gLe
  | .Gt => gGt
  | .GtE => gGe
  | .Is => gIsN
  | .IsNot => gNotN
  | .In => gIn
  | .NotIn => gNotIn
theorem opC_ok (hK : X.K = G.K) (hr : Room k X.A) (op : CmpOp) : ∃ r, OpR X (compareOp op) r ∧ OpD G (opC op) r := by
  have hu := hr.un
  cases op
  · exact ⟨_, op_eqA (by omega), by rw [hK]; exact d_eq⟩
  · exact ⟨_, op_neA (by omega), by rw [hK]; exact d_ne⟩
  · exact ⟨_, op_ltA (by omega), by rw [hK]; exact d_lt⟩
  · exact ⟨_, op_le, d_le⟩
  · exact ⟨_, op_gt, d_gt⟩
  · exact ⟨_, op_ge, d_ge⟩
  · exact ⟨_, op_isX, d_isN⟩
  · exact ⟨_, op_notX, d_notN⟩
  · exact ⟨_, op_inA (by omega), by rw [hK]; exact d_in⟩
  · exact ⟨_, op_notInA (by omega), by rw [hK]; exact d_notIn⟩
def isIn : CmpOp → Bool
  | .In => true
  | .NotIn => true
  | _ => false

/-! ### built-in functions -/
def btF : Bt → Option (List D → Option D)
  | .len => some gLen
  | .abs => some gAbs
  | .int => some gInt
  | .max => some gMax
  | .min => some gMin
  | .sum => some gSum
  | .all => some gAll
  | .any => some gAny
  | .sorted => some gSorted
  | .tuple => some gTuple
  | .list => some gList
  | .repr => some gRepr
  | _ => none
theorem bt_call (h : CtxOk Γ G X c k) {bt : Bt} {g : List D → Option D} (hb : btF bt = some g) (g1 : Gl X (Str.ofString bt.nm)) (m1 : X.mg (Str.ofString bt.nm) = none) (he : notStar e = true) (hes : notStars es = true) :
    ∃ r, CallD G g r ∧ ∀ t, PA X (e :: es) t → PE X (.Call (.Name (Str.ofString bt.nm) p) (e :: es) [] pos) (tCB r t) := by
  have hu := h.xo.room.un
  have hK := h.xo.K
  unfold btF at hb
  split at hb <;> cases hb
  · exact ⟨_, d_len, fun t ht => pe_callB (by rw [← hK]; exact call_lenA) g1 m1 boot_len ht (by decide) (by decide) (star_eq he) (stars_eq hes)⟩
  · exact ⟨_, d_abs, fun t ht => pe_callB call_abs g1 m1 PyProof.Rows.boot_abs ht (by decide) (by decide) (star_eq he) (stars_eq hes)⟩
  · exact ⟨_, d_int, fun t ht => pe_callTy call_int1 g1 m1 PyProof.Rows.boot_int ht (by decide) (by decide) (star_eq he) (stars_eq hes)⟩
  · exact ⟨_, d_max, fun t ht => pe_callB (by rw [← hK]; exact call_maxA h.xo.calm) g1 m1 PyProof.Rows.boot_max ht (by decide) (by decide) (star_eq he) (stars_eq hes)⟩
  · exact ⟨_, d_min, fun t ht => pe_callB (by rw [← hK]; exact call_minA h.xo.calm) g1 m1 PyProof.Rows.boot_min ht (by decide) (by decide) (star_eq he) (stars_eq hes)⟩
  · exact ⟨_, d_sum, fun t ht => pe_callB (by rw [← hK]; exact call_sumA h.xo.calm) g1 m1 PyProof.Rows.boot_sum ht (by decide) (by decide) (star_eq he) (stars_eq hes)⟩
  · exact ⟨_, d_all, fun t ht => pe_callB (by rw [← hK]; exact cr_all h.xo.calm) g1 m1 PyProof.Rows.boot_all ht (by decide) (by decide) (star_eq he) (stars_eq hes)⟩
  · exact ⟨_, d_any, fun t ht => pe_callB (by rw [← hK]; exact cr_any h.xo.calm) g1 m1 PyProof.Rows.boot_any ht (by decide) (by decide) (star_eq he) (stars_eq hes)⟩
  · exact ⟨_, d_sorted, fun t ht => pe_callB (by rw [← hK]; exact cr_sortV h.xo.calm) g1 m1 PyProof.Rows.boot_sorted ht (by decide) (by decide) (star_eq he) (stars_eq hes)⟩
  · exact ⟨_, d_tuple, fun t ht => pe_callTy (by rw [← hK]; exact call_tuple_of) g1 m1 PyProof.Rows.boot_tuple ht (by decide) (by decide) (star_eq he) (stars_eq hes)⟩
  · exact ⟨_, d_list, fun t ht => pe_callTy (by rw [← hK]; exact call_list_of) g1 m1 PyProof.Rows.boot_list ht (by decide) (by decide) (star_eq he) (stars_eq hes)⟩
  · exact ⟨_, d_repr, fun t ht => pe_callB (by rw [← hK]; exact call_reprA h.xo.guards (by omega)) g1 m1 PyProof.Rows.boot_repr ht (by decide) (by decide) (star_eq he) (stars_eq hes)⟩
end
end PL

namespace PL
open PySem PySem.Spec PyProof.Rows L2

/-! ### from text to meaning -/
structure Cmp where
  E : SC → Expr → M D
  F : SC → Expr → M (List D)
  T : SC → Expr → M Bool
  S : SC → Stmt → M O
structure Sound (Γ : Gm) (G : Gx) (r : Cmp) : Prop where
  E : ∀ (Z : Zx) (W : WX) (X : Cx) (c : SC) (k : Nat), CtxOk Γ G X c k → Takes X W → ∀ e, PE X e (tOf G Z W (r.E c e))
  F : ∀ (Z : Zx) (W : WX) (X : Cx) (c : SC) (k : Nat), CtxOk Γ G X c k → Takes X W → ∀ e, PE X e (tOfF G Z W (r.F c e))
  T : ∀ (Z : Zx) (W : WX) (X : Cx) (c : SC) (k : Nat), CtxOk Γ G X c k → Takes X W → ∀ e, PT X e (tOfT G Z W (r.T c e))
  S : ∀ (Z : Zx) (W : WX) (X : Cx) (c : SC) (k : Nat), CtxOk Γ G X c k → Takes X W → PassesOwn (model X.prog X.w) X.A X.env X.xe → ∀ st, PS X st (tOfS G Z W (r.S c st))

section
variable {Γ : Gm} {G : Gx} {Z : Zx} {W : WX} {X : Cx} {c : SC} {k : Nat} {x : Str} {i : Nat} {gi : GI} {pos p : Pos} {e a b : Expr} {es : List Expr} {r : Cmp}

/-! arguments -/
def cA (r : Cmp) (c : SC) : List Expr → M (List D)
  | [] => eNil
  | e :: es => if notStar e then eCons (r.E c e) (cA r c es) else eStuck
theorem sA (s : Sound Γ G r) (h : CtxOk Γ G X c k) (tk : Takes X W) : ∀ es, PA X es (tOfA G Z W (cA r c es))
  | [] => sa_nil
  | e :: es => by
    unfold cA
    split
    · rename_i he; exact sa_cons (s.E Z W X c k h tk e) (sA s h tk es) (star_eq he)
    · exact sa_stuck
/-! items of a display -/
def starOf : Expr → Option Expr
  | .Starred e _ => some e
  | _ => none
theorem starOf_eq {e b : Expr} (h : starOf e = some b) : ∃ p, e = .Starred b p := by
  cases e <;> simp [starOf] at h
  subst h; exact ⟨_, rfl⟩
def cAs (r : Cmp) (c : SC) : List Expr → M (List D)
  | [] => eNil
  | e :: es => match starOf e with
    | some b => (match slotE c b with
      | some j => eStarS j (cAs r c es)
      | none => eStar (r.E c b) (cAs r c es))
    | none => if notStar e then eCons (r.E c e) (cAs r c es) else eStuck
theorem sAs (s : Sound Γ G r) (h : CtxOk Γ G X c k) (tk : Takes X W) : ∀ es, PA X es (tOfA G Z W (cAs r c es))
  | [] => sa_nil
  | e :: es => by
    unfold cAs
    split
    · rename_i b hb
      obtain ⟨p, e1⟩ := starOf_eq hb
      subst e1
      split
      · rename_i j hj; exact sa_starS h.K (slotE_var h hj) (sAs s h tk es)
      · exact sa_star h.K (s.E Z W X c k h tk b) (sAs s h tk es)
    · split
      · rename_i he; exact sa_cons (s.E Z W X c k h tk e) (sAs s h tk es) (star_eq he)
      · exact sa_stuck
def aRefV (j : Nat) : M AV := fun env => match env[j]? with
  | some (.own _ _) => .ok (.ref j) env
  | some (.val d) => .ok (.val d) env
  | _ => .stuck
theorem sb_refV {e : Expr} {es : List Expr} {i : Nat} {g : M (List AV)} (h : PE X e (tVar i)) (t : PA X es (tOfB G Z W g)) (hs : starEach (e :: es) X.env = (false, eval e X.env) :: starEach es X.env) : PA X (e :: es) (tOfB G Z W (aCons (aRefV i) g)) :=
  pa_imp (pa_cons h t hs) fun σ H Q ⟨S, env, o, q⟩ => by
    have q' : Post G Z W ((aRefV i env).bind fun a => bnd g fun as => ret (a :: as)) S H env σ fun ds S' H' _ => ∀ vs, AvRp G S' H' σ ds vs → Q vs H' := q
    unfold aRefV at q'
    split at q'
    · rename_i io xs e
      obtain ⟨a, vs, e1, e2, e3, e4⟩ := o.own i io xs e
      refine ⟨_, e1, ?_⟩
      refine tOfB.go o (Post.bind q') fun db S2 H2 env2 y t2 ry q2 => ?_
      exact q2 S2 H2 (Tr.refl t2.ok) _ (.ref e1 ry)
    · rename_i d e
      obtain ⟨v, e1, e2⟩ := o.val i d e
      refine ⟨_, e1, ?_⟩
      refine tOfB.go o (Post.bind q') fun db S2 H2 env2 y t2 ry q2 => ?_
      exact q2 S2 H2 (Tr.refl t2.ok) _ (.val (t2.rp o e2) ry)
    · exact q'.elim
def cB (r : Cmp) (c : SC) : List Bool → List Expr → M (List AV)
  | [], [] => aNil
  | io :: ios, e :: es => if notStar e then (if io then (match slotE c e with
      | some j => aCons (aRefV j) (cB r c ios es)
      | none => aCons (aVal (r.E c e)) (cB r c ios es)) else aCons (aVal (r.E c e)) (cB r c ios es)) else eStuck
  | _, _ => eStuck
theorem sB (s : Sound Γ G r) (h : CtxOk Γ G X c k) (tk : Takes X W) : ∀ ios es, PA X es (tOfB G Z W (cB r c ios es))
  | [], [] => sb_nil
  | [], e :: es => by unfold cB; exact sb_stuck
  | io :: ios, [] => by unfold cB; exact sb_stuck
  | io :: ios, e :: es => by
    unfold cB
    split
    · rename_i he
      split
      · split
        · rename_i j hj; exact sb_refV (slotE_var h hj) (sB s h tk ios es) (star_eq he)
        · exact sb_val (s.E Z W X c k h tk e) (sB s h tk ios es) (star_eq he)
      · exact sb_val (s.E Z W X c k h tk e) (sB s h tk ios es) (star_eq he)
    · exact sb_stuck

/-! targets -/
mutual
def cG (c : SC) : Nat → Expr → Option Tg
  | 0, _ => none
  | n + 1, .Name x _ => (stor c x).map .nm
  | n + 1, .Tuple es _ _ => (cGs c n es).map .tp
  | _, _ => none
def cGs (c : SC) : Nat → List Expr → Option (List Tg)
  | 0, _ => none
  | n + 1, [] => some []
  | n + 1, e :: es => if notStar e then (match cG c n e, cGs c n es with
      | some t, some ts => some (t :: ts)
      | _, _ => none) else none
end
theorem each_len {env : PySem.Env} : ∀ {es : List Expr}, (assignEach es env).length = es.length
  | [] => rfl
  | e :: es => by
    cases e <;> simp only [assignEach, List.length_cons, each_len (es := es)]
theorem each_nostar {env : PySem.Env} : ∀ {es : List Expr}, notStars es = true → (assignEach es env).findIdx? (·.1) = none
  | [], _ => rfl
  | e :: es, h => by
    unfold notStars at h
    simp only [Bool.and_eq_true] at h
    rw [each_eq h.1, List.findIdx?_cons, each_nostar h.2]
    rfl
mutual
theorem sG (h : CtxOk Γ G X c k) : ∀ (n : Nat) (e : Expr) (t : Tg), cG c n e = some t → PG X e (tOfG G Z t)
  | 0, _, _, q => by simp [cG] at q
  | n + 1, e, t, q => by
    cases e <;> simp only [cG] at q <;> try contradiction
    · rename_i x pos
      cases hs : stor c x with
      | none => rw [hs] at q; cases q
      | some i =>
        rw [hs] at q; cases q
        obtain ⟨h1, h2, h3⟩ := stor_at h hs
        exact sg_name h.xo.nd h1 h2 h3
    · rename_i es kk pos
      cases hs : cGs c n es with
      | none => rw [hs] at q; cases q
      | some ts =>
        rw [hs] at q; cases q
        obtain ⟨h1, h2, h3⟩ := sGs h n es ts hs
        exact sg_tup h.xo.calm h.xo.K h1 (by rw [each_len]; exact h2) (each_nostar h3)
theorem sGs (h : CtxOk Γ G X c k) : ∀ (n : Nat) (es : List Expr) (ts : List Tg), cGs c n es = some ts → PGs X es (tOfGs G Z ts) ∧ es.length = ts.length ∧ notStars es = true
  | 0, _, _, q => by simp [cGs] at q
  | n + 1, [], ts, q => by simp only [cGs] at q; cases q; exact ⟨sgs_nil, rfl, rfl⟩
  | n + 1, e :: es, ts, q => by
    simp only [cGs] at q
    split at q <;> try contradiction
    rename_i hn
    split at q <;> try contradiction
    rename_i t ts' h1 h2
    cases q
    obtain ⟨g1, g2, g3⟩ := sGs h n es ts' h2
    refine ⟨sgs_cons (sG h n e t h1) g1 (by rw [each_eq hn]; rfl), by simp [g2], ?_⟩
    unfold notStars; rw [hn, g3]; rfl
end

theorem sGU (h : CtxOk Γ G X c k) (n : Nat) (e : Expr) (t : Tg) (q : cG c n e = some t) : PG X e (tOfGU G Z t) := by
  have g := sG (Z := Z) h n e t q
  cases n with
  | zero => simp [cG] at q
  | succ n =>
    cases e <;> simp only [cG] at q <;> try contradiction
    · rename_i x pos
      cases hs : stor c x with
      | none => rw [hs] at q; cases q
      | some i =>
        rw [hs] at q; cases q
        obtain ⟨h1, h2, h3⟩ := stor_at h hs
        exact sgu_name h.xo.nd h1 h2 h3
    · rename_i es kk pos
      cases hs : cGs c n es with
      | none => rw [hs] at q; cases q
      | some ts => rw [hs] at q; cases q; exact sgu_tup g
theorem sGsU (h : CtxOk Γ G X c k) : ∀ (n : Nat) (es : List Expr) (ts : List Tg), cGs c n es = some ts → PGs X es (tOfGsU G Z ts) ∧ es.length = ts.length ∧ notStars es = true
  | 0, _, _, q => by simp [cGs] at q
  | n + 1, [], ts, q => by simp only [cGs] at q; cases q; exact ⟨sgu_nil, rfl, rfl⟩
  | n + 1, e :: es, ts, q => by
    simp only [cGs] at q
    split at q <;> try contradiction
    rename_i hn
    split at q <;> try contradiction
    rename_i t ts' h1 h2
    cases q
    obtain ⟨g1, g2, g3⟩ := sGsU h n es ts' h2
    refine ⟨sgu_cons (sGU h n e t h1) g1 (by rw [each_eq hn]; rfl), by simp [g2], ?_⟩
    unfold notStars; rw [hn, g3]; rfl

/-! what is walked -/
def isTupE : Expr → Bool
  | .Tuple .. => true
  | _ => false
def cI (Γ : Gm) (r : Cmp) (c : SC) (tg : Expr) (e : Expr) : M (List D) := match e with
  | .Call (.Name x _) args [] _ => if notStars args then (match glob Γ c x, args with
      | some (.blt .range), [a] => iRng rng1 (cA r c [a])
      | some (.blt .range), [a, b] => iRng rng2 (cA r c [a, b])
      | some (.blt .range), [a, b, d] => iRng rng3 (cA r c [a, b, d])
      | some (.blt .enumerate), [a] => if isTupE tg then iRng gEnumI (cA r c [a]) else eStuck
      | some (.blt .zip), [a, b] => if isTupE tg then iRng gZipI (cA r c [a, b]) else eStuck
      | _, _ => iSeq (r.E c e)) else eStuck
  | _ => iSeq (r.E c e)
theorem stars1 {e : Expr} {es : List Expr} (h : notStars (e :: es) = true) : notStar e = true ∧ notStars es = true := by
  unfold notStars at h; simpa using h
theorem sI (s : Sound Γ G r) (h : CtxOk Γ G X c k) (tk : Takes X W) (tg e : Expr) : PI X tg e (tOfI G Z W (cI Γ r c tg e)) := by
  have seq := si_seq (tg := tg) h.K (s.E Z W X c k h tk e)
  unfold cI
  split
  · split
    · rename_i x p args pos hst
      have hA := sA (Z := Z) s h tk args
      split
      · rename_i _ a hg
        obtain ⟨e1, g1, m1⟩ := glob_blt h hg
        subst e1
        exact si_rng1 g1 m1 hA (by rw [star_eq (stars1 hst).1]; rfl)
      · rename_i _ a b hg
        obtain ⟨e1, g1, m1⟩ := glob_blt h hg
        subst e1
        have h2 := stars1 hst
        exact si_rng2 g1 m1 hA (by rw [star_eq h2.1, star_eq (stars1 h2.2).1]; rfl) (by rw [star_eq (stars1 h2.2).1]; rfl)
      · rename_i _ a b d hg
        obtain ⟨e1, g1, m1⟩ := glob_blt h hg
        subst e1
        have h2 := stars1 hst
        exact si_rng3 g1 m1 hA (by rw [star_eq h2.1]) (stars_eq h2.2)
      · rename_i _ a hg
        split
        · rename_i ht
          obtain ⟨e1, g1, m1⟩ := glob_blt h hg
          subst e1
          cases tg <;> first
            | (cases ht; done)
            | exact si_enum h.K g1 m1 hA (by rw [star_eq (stars1 hst).1]; rfl)
        · exact si_stuck
      · rename_i _ a b hg
        split
        · rename_i ht
          obtain ⟨e1, g1, m1⟩ := glob_blt h hg
          subst e1
          have h2 := stars1 hst
          cases tg <;> first
            | (cases ht; done)
            | exact si_zip h.K g1 m1 hA (by rw [star_eq h2.1]) (stars_eq h2.2)
        · exact si_stuck
      · exact seq
    · exact si_stuck
  · exact seq

/-! comprehensions -/
def ownOf (N : List Str) : List (Str × NameKind) → List (Str × Nat)
  | [] => []
  | (x, kd) :: r => if stoK (some kd) then (match idxOf N x with
      | some i => (x, i) :: ownOf N r
      | none => ownOf N r) else ownOf N r
def inner (c : SC) (scope : Scope) : SC := ⟨c.N, relS scope c.sc, scope.names, c.lam, false⟩
def cTs (r : Cmp) (c : SC) : List Expr → M Bool
  | [] => ret true
  | [e] => r.T c e
  | _ => eStuck
def itS (c : SC) : Expr → List Nat
  | .Name x p => (slotE c (.Name x p)).toList
  | .Call (.Name x _) args _ _ => if decide (x = ("zip" : Str)) || decide (x = ("enumerate" : Str)) then args.filterMap (slotE c) else []
  | _ => []
def cLc (Γ : Gm) (r : Cmp) (c : SC) (elt tg iter : Expr) (ifs : List Expr) (scope : Scope) : M (List D) :=
  if blkC c.N c.sc scope (ownOf c.N scope.names) && notSet iter then (match cG (inner c scope) 8 tg with
    | some t => if t.vars.all (fun j => (ownOf c.N scope.names).map (·.2) |>.contains j) then lendC (itS c iter) (eLc (cI Γ r c tg iter) ((ownOf c.N scope.names).map (·.2)) t (cTs r (inner c scope) ifs) (r.E (inner c scope) elt)) else eStuck
    | none => eStuck) else eStuck
def cDc (Γ : Gm) (r : Cmp) (c : SC) (kx vx tg iter : Expr) (ifs : List Expr) (scope : Scope) : M D :=
  if blkC c.N c.sc scope (ownOf c.N scope.names) && notSet iter then (match cG (inner c scope) 8 tg with
    | some t => if t.vars.all (fun j => (ownOf c.N scope.names).map (·.2) |>.contains j) then eDc (cI Γ r c tg iter) ((ownOf c.N scope.names).map (·.2)) t (cTs r (inner c scope) ifs) (r.E (inner c scope) kx) (r.E (inner c scope) vx) else eStuck
    | none => eStuck) else eStuck
theorem takes_WF : Takes X WF := fun u s' ⟨a, B, sI, pins, σ, H, cls, d, e, I, nb, up, sky, na, os, ag, w⟩ => w.elim
theorem relS_keep {x : Str} {kd : NameKind} {scope sc : Scope} (hk : kd ≠ .free) (h : scope.names.lookup x = some kd) : (relS scope sc).names.lookup x = some kd := lookup_relS_keep hk h
theorem CtxOk.blk (h : CtxOk Γ G X c k) {scope : Scope} (hk : scope.kind = .function) (s : Shared) (H : Hp) (C : Addr) (cl : List (Str × Addr)) (fp : List Addr) : CtxOk Γ G (X.blk s H scope (compEnvC scope cl C X.env) fp) (inner c scope) k where
  xo := ⟨h.xo.N, by show relS scope X.env.scope = relS scope c.sc; rw [h.xo.sc], h.xo.nd, h.xo.calm, h.xo.K, h.xo.mg, h.xo.room, h.xo.guards⟩
  kind := hk
  sto := fun x hx => by
    have hx : stoK (scope.names.lookup x) = true := hx
    show Loc (relS scope X.env.scope) x ∧ ((scope.names.lookup x == some NameKind.cell) = true ∨ (relS scope X.env.scope).names.lookup x = some .local)
    unfold stoK at hx
    split at hx <;> try contradiction
    · rename_i e
      have := relS_keep (sc := X.env.scope) (by decide) e
      exact ⟨.inl this, .inr this⟩
    · rename_i e
      exact ⟨.inr (relS_keep (sc := X.env.scope) (by decide) e), .inl (by rw [e]; rfl)⟩
  nodeb := h.nodeb
  tab := fun x gi hx => ⟨(h.tab x gi hx).db, (h.tab x gi hx).is⟩
  xm := h.xm
  lam := fun e => let ⟨r, l⟩ := h.lam e; ⟨r, ⟨l.ex⟩⟩
  top := fun e => by cases e
theorem blk_kind {N : List Str} {sc scope : Scope} {own : List (Str × Nat)} (h : blkC N sc scope own = true) : scope.kind = .function := (blkOk_by h).kind
theorem sTs (s : Sound Γ G r) (h : CtxOk Γ G X c k) (tk : Takes X W) : ∀ es, PTs X es (tOfT G Z W (cTs r c es))
  | [] => stt_nil
  | [e] => stt_one (s.T Z W X c k h tk e)
  | _ :: _ :: _ => stt_stuck
theorem sLc (s : Sound Γ G r) (h : CtxOk Γ G X c k) (tk : Takes X W) {elt tg iter : Expr} {ifs : List Expr} {scope : Scope} : PE X (.ListComp elt [⟨tg, iter, ifs, 0⟩] scope pos) (tOfF G Z W (cLc Γ r c elt tg iter ifs scope)) := by
  unfold cLc
  split
  · rename_i hb
    simp only [Bool.and_eq_true] at hb
    split
    · rename_i t ht
      split
      · rename_i hv
        have hk := blk_kind hb.1
        refine sf_lend _ (sf_lc h.xo.calm h.xo.nd (sI s h tk tg iter) (by rw [h.xo.N, h.xo.sc]; exact blkOk_by hb.1) (fun s0 H C cl fp => sG (h.blk hk s0 H C cl fp) 8 tg t ht) (fun s0 H C cl fp => sTs s (h.blk hk s0 H C cl fp) takes_WF ifs)
          (fun s0 H C cl fp => s.E Z WF _ _ k (h.blk hk s0 H C cl fp) takes_WF elt) (folded_eq hb.2) fun j hj => ?_)
        have := List.all_eq_true.mp hv j hj
        simpa using this
      · exact sf_stuck
    · exact sf_stuck
  · exact sf_stuck
theorem sDc (s : Sound Γ G r) (h : CtxOk Γ G X c k) (tk : Takes X W) {kx vx tg iter : Expr} {ifs : List Expr} {scope : Scope} : PE X (.DictComp kx vx [⟨tg, iter, ifs, 0⟩] scope pos) (tOf G Z W (cDc Γ r c kx vx tg iter ifs scope)) := by
  unfold cDc
  split
  · rename_i hb
    simp only [Bool.and_eq_true] at hb
    split
    · rename_i t ht
      split
      · rename_i hv
        have hk := blk_kind hb.1
        refine se_dc h.xo.calm h.xo.nd (sI s h tk tg iter) (by rw [h.xo.N, h.xo.sc]; exact blkOk_by hb.1) (fun s0 H C cl fp => sG (h.blk hk s0 H C cl fp) 8 tg t ht) (fun s0 H C cl fp => sTs s (h.blk hk s0 H C cl fp) takes_WF ifs)
          (fun s0 H C cl fp => s.E Z WF _ _ k (h.blk hk s0 H C cl fp) takes_WF kx) (fun s0 H C cl fp => s.E Z WF _ _ k (h.blk hk s0 H C cl fp) takes_WF vx) (folded_eq hb.2) fun j hj => ?_
        have := List.all_eq_true.mp hv j hj
        simpa using this
      · exact se_stuck
    · exact se_stuck
  · exact se_stuck
theorem sLcS (s : Sound Γ G r) (h : CtxOk Γ G X c k) (tk : Takes X W) {elt tg iter : Expr} {ifs : List Expr} {scope : Scope} {y : Str} {py spos : Pos} (hy : X.N[i]? = some y) (hyl : X.env.scope.names.lookup y = some .local)
    (hsw : swapsWith (.ListComp elt [⟨tg, iter, ifs, 0⟩] scope pos) (some (.Name y py)) spos.line X.env = pure true) : PS X (.Assign [.Name y py] (.ListComp elt [⟨tg, iter, ifs, 0⟩] scope pos) spos) (tOfS G Z W (sSetO i (cLc Γ r c elt tg iter ifs scope))) := by
  have no : PS X (.Assign [.Name y py] (.ListComp elt [⟨tg, iter, ifs, 0⟩] scope pos) spos) (tOfS G Z W (sSetO i eStuck)) := ps_imp ps_never fun D σ H ⟨S, env, o, q⟩ => q.elim
  unfold cLc
  split
  · rename_i hb
    simp only [Bool.and_eq_true] at hb
    split
    · rename_i t ht
      split
      · rename_i hv
        have hk := blk_kind hb.1
        refine ss_setLcL _ h.xo.calm h.xo.nd hy hyl hsw (sI s h tk tg iter) (by rw [h.xo.N, h.xo.sc]; exact blkOk_by hb.1) (fun s0 H C cl fp => sG (h.blk hk s0 H C cl fp) 8 tg t ht) (fun s0 H C cl fp => sTs s (h.blk hk s0 H C cl fp) takes_WF ifs)
          (fun s0 H C cl fp => s.E Z WF _ _ k (h.blk hk s0 H C cl fp) takes_WF elt) (folded_eq hb.2) fun j hj => ?_
        have := List.all_eq_true.mp hv j hj
        simpa using this
      · exact no
    · exact no
  · exact no
end
end PL

namespace PL
open PySem PySem.Spec PyProof.Rows L2

def isLstE : Expr → Bool
  | .List .. => true
  | .ListComp .. => true
  | _ => false
def sameS (x : Str) (y : String) : Bool := decide (x = Str.ofString y)
/-- fresh by its text -/
def isF (Γ : Gm) (c : SC) : Expr → Bool
  | .List .. => true
  | .ListComp .. => true
  | .Call (.Name x _) _ _ _ => match glob Γ c x with
    | some (.blt .list) => true
    | some (.blt .sorted) => true
    | _ => false
  | .BinOp a op b _ => match op with
    | .Add => isLstE a || isLstE b
    | .Mult => isLstE a
    | _ => false
  | _ => false
def btL : Bt → Option (List D → Option (List D))
  | .list => some gListF
  | .sorted => some gSortedF
  | _ => none
/-- range(b) -/
def rgE (Γ : Gm) (c : SC) : Expr → Option Expr
  | .Call (.Name y _) [b] [] _ => (match glob Γ c y with
    | some (.blt .range) => if notStar b then some b else none
    | _ => none)
  | _ => none
def isLs : Bt → Bool
  | .list => true
  | _ => false
def cFl (Γ : Gm) (r : Cmp) (c : SC) (bt : Bt) (a : Expr) (as : List Expr) : M (List D) := match bt, as with
  | .list, [] => (match rgE Γ c a with
    | some b => fRgL (r.E c b)
    | none => eFnF gListF (cA r c [a]))
  | bt, as => (match btL bt with
    | some g => eFnF g (cA r c (a :: as))
    | none => eStuck)
def cF (Γ : Gm) (r : Cmp) (c : SC) (e : Expr) : M (List D) := match e with
  | .List es _ => eLstO (cAs r c es)
  | .ListComp elt [⟨tg, iter, ifs, 0⟩] scope _ => cLc Γ r c elt tg iter ifs scope
  | .Call (.Name x _) (a :: as) [] _ => if notStars (a :: as) then (match glob Γ c x with
    | some (.blt bt) => cFl Γ r c bt a as
    | _ => eStuck) else eStuck
  | .BinOp a .Add b _ => eOpF gAddF (r.E c a) (r.E c b)
  | .BinOp a .Mult b _ => eOpF gRepF (r.E c a) (r.E c b)
  | _ => eStuck
/-- f(x), x a slot -/
def cSlotFn (bt : Bt) (j : Nat) : M D := match bt with
  | .len => eFnO gLen j
  | .tuple => eFnO gTuple j
  | .sum => eFnO gSum j
  | .list => eFnO gList j
  | .sorted => eFnO gSorted j
  | bt => match btF bt with
    | some g => eFnB g j
    | none => eStuck
def cBt (Γ : Gm) (r : Cmp) (c : SC) (bt : Bt) (a : Expr) (as : List Expr) : M D := match bt, a, as with
  | .isinstance, a, [.Name y _] => (match glob Γ c y with
    | some (.blt tb) => (match tb.ty with
      | some s => eIsi s (r.E c a)
      | none => eStuck)
    | _ => eStuck)
  | .list, a, [] => (match rgE Γ c a with
    | some b => eOfF (fRgL (r.E c b))
    | none => (match slotE c a with
      | some j => cSlotFn .list j
      | none => eFn gList (cA r c [a])))
  | .tuple, a, [] => (match rgE Γ c a with
    | some b => eRgT (r.E c b)
    | none => (match slotE c a with
      | some j => cSlotFn .tuple j
      | none => eFn gTuple (cA r c [a])))
  | bt, a, [] => (match slotE c a with
    | some j => cSlotFn bt j
    | none => (match btF bt with
      | some g => eFn g (cA r c [a])
      | none => eStuck))
  | bt, a, as => (match btF bt with
    | some g => eFn g (cA r c (a :: as))
    | none => eStuck)
def cOpt (r : Cmp) (c : SC) : Option Expr → Option (M D)
  | none => none
  | some e => some (r.E c e)
def cAnds (r : Cmp) (c : SC) : List Expr → M D
  | [] => eStuck
  | [a] => r.E c a
  | a :: b :: rest => eAndV (r.E c a) (cAnds r c (b :: rest))
def cOrs (r : Cmp) (c : SC) : List Expr → M D
  | [] => eStuck
  | [a] => r.E c a
  | a :: b :: rest => eOrV (r.E c a) (cOrs r c (b :: rest))
def cCmp (r : Cmp) (c : SC) (a : Expr) (op : CmpOp) (b : Expr) : M D :=
  if isIn op then (match slotE c b with
    | some j => eOpR (opC op) (r.E c a) j
    | none => eOp (opC op) (r.E c a) (r.E c b)) else (match slotE c a with
    | some j => eOpL (opC op) j (r.E c b)
    | none => eOp (opC op) (r.E c a) (r.E c b))
/-- a name is handed where it is only read -/
def anyLend (c : SC) : List Bool → List Expr → Bool
  | false :: ios, e :: es => (slotE c e).isSome || anyLend c ios es
  | true :: ios, _ :: es => anyLend c ios es
  | _, _ => false
def cE (Γ : Gm) (r : Cmp) (c : SC) (e : Expr) : M D := match e with
  | .Constant (.int i) _ _ => eC (.int i)
  | .Constant (.bool b) _ _ => eC (.bl b)
  | .Constant (.str x) _ _ => eC (.str x)
  | .Constant .none _ _ => eC .non
  | .Name x _ => (match slot c x with
    | some j => eVar j
    | none => (match glob Γ c x with
      | some (.fn _ _ _) => eC (.fn x)
      | some (.cst d) => eC d
      | _ => eStuck))
  | .BinOp a op b _ => if isF Γ c e then eOfF (r.F c e) else (match opB op with
    | some g => eOp g (r.E c a) (r.E c b)
    | none => eStuck)
  | .UnaryOp .USub a _ => eUn gNeg (r.E c a)
  | .UnaryOp .Not a _ => eNotV (r.E c a)
  | .BoolOp .And es _ => cAnds r c es
  | .BoolOp .Or es _ => cOrs r c es
  | .Compare a [op] [b] _ => if nomk op b then cCmp r c a op b else eStuck
  | .Compare a [op, op'] [b, d] _ => if nomk op' d then eChain (opC op) (opC op') (r.E c a) (r.E c b) (r.E c d) else eStuck
  | .Compare a [op, op', op''] [b, d, f] _ => if nomk op'' f then eChain3 (opC op) (opC op') (opC op'') (r.E c a) (r.E c b) (r.E c d) (r.E c f) else eStuck
  | .Call (.Name x _) [.Lambda ps body scope _] [] _ => if c.lam && (LamX.lamSB c.sc scope && noPar ps) then (match glob Γ c x with
    | some (.met l fine) => eMet (metOf (xmF Γ) (fldF Γ) l) fine (r.E ⟨c.N, scope, [], false, false⟩ body)
    | _ => eStuck) else eStuck
  | .Call (.Name x _) (a :: as) [] _ => if notStars (a :: as) then (match glob Γ c x with
    | some (.blt bt) => cBt Γ r c bt a as
    | some (.fn np io F) => if anyLend c io (a :: as) then eCallL io np F (cB r c ((a :: as).map fun _ => true) (a :: as)) else eCall np F (cB r c io (a :: as))
    | none => (match slot c x with
      | some j => eCallD (fnF Γ) j (cB r c ((a :: as).map fun _ => true) (a :: as))
      | none => eStuck)
    | _ => eStuck) else eStuck
  | .Call (.Attribute (.Name x _) m apos) [] [] cpos => (match slot c x with
    | some j => if sameS m "pop" && apos.endLine == cpos.line then ePop j else eStuck
    | none => eStuck)
  | .Call (.Attribute (.Name x _) m apos) [a] [] cpos => (match slot c x with
    | some j => if notStar a && apos.endLine == cpos.line then (if sameS m "index" then eMeth gIdx j (r.E c a) else if sameS m "count" then eMeth gCnt j (r.E c a) else if sameS m "pop" then ePopAt j (r.E c a) else eStuck) else eStuck
    | none => eStuck)
  | .IfExp t a b _ => eIf (r.T c t) (r.E c a) (r.E c b)
  | .Subscript a (.Slice none none (some (.UnaryOp .USub (.Constant (.int 1) _ _) _)) _) _ => eUn gRev (r.E c a)
  | .Subscript a (.Slice lo hi none _) _ => eSl (r.E c a) (cOpt r c lo) (cOpt r c hi)
  | .Subscript a ix _ => if notSlice ix then (match slotE c a with
    | some j => eIxB j (r.E c ix)
    | none => eOp gIx (r.E c a) (r.E c ix)) else eStuck
  | .Tuple es _ _ => eTup (cAs r c es)
  | .Dict [] [] _ => eC0 []
  | .DictComp kx vx [⟨tg, iter, ifs, 0⟩] scope _ => cDc Γ r c kx vx tg iter ifs scope
  | .List _ _ => eOfF (r.F c e)
  | .ListComp _ _ _ _ => eOfF (r.F c e)
  | _ => eStuck

section
variable {Γ : Gm} {G : Gx} {Z : Zx} {W : WX} {X : Cx} {c : SC} {k : Nat} {x : Str} {i : Nat} {gi : GI} {pos p : Pos} {e a b : Expr} {es : List Expr} {r : Cmp}
theorem rgE_eq (h : CtxOk Γ G X c k) {a b : Expr} (e : rgE Γ c a = some b) : ∃ p pos, a = .Call (.Name (Str.ofString "range") p) [b] [] pos ∧ Gl X (Str.ofString "range") ∧ X.mg (Str.ofString "range") = none ∧ notStar b = true := by
  unfold rgE at e
  split at e <;> try contradiction
  split at e <;> try contradiction
  rename_i hg
  split at e <;> cases e
  rename_i hn
  obtain ⟨e1, g1, m1⟩ := glob_blt h hg
  subst e1
  exact ⟨_, _, rfl, g1, m1, hn⟩
theorem sFl (s : Sound Γ G r) (h : CtxOk Γ G X c k) (tk : Takes X W) {bt : Bt} {as : List Expr} (g1 : Gl X (Str.ofString bt.nm)) (m1 : X.mg (Str.ofString bt.nm) = none) (hst : notStars (a :: as) = true) :
    PE X (.Call (.Name (Str.ofString bt.nm) p) (a :: as) [] pos) (tOfF G Z W (cFl Γ r c bt a as)) := by
  have hs := stars1 hst
  have ls : ∀ {as : List Expr} {g1 : Gl X (Str.ofString (Bt.list).nm)} {m1 : X.mg (Str.ofString (Bt.list).nm) = none} (hst : notStars (a :: as) = true), PE X (.Call (.Name (Str.ofString (Bt.list).nm) p) (a :: as) [] pos) (tOfF G Z W (eFnF gListF (cA r c (a :: as)))) := fun {as g1 m1} hst =>
    pe_imp (pe_callTy (by rw [← h.K]; exact call_list_of) g1 m1 PyProof.Rows.boot_list (sA (Z := Z) s h tk (a :: as)) (by decide) (by decide) (star_eq (stars1 hst).1) (stars_eq (stars1 hst).2)) fun σ H Q q => tCBF_of f_list q
  unfold cFl
  split
  · split
    · rename_i b hb
      obtain ⟨p2, pos2, e1, g2, m2, hn⟩ := rgE_eq h hb
      subst e1
      exact sf_listRg h.xo.calm g1 m1 g2 m2 (s.E Z W X c k h tk b) (star_eq hn)
    · exact ls (g1 := g1) (m1 := m1) hst
  · have hA := sA (Z := Z) s h tk (a :: as)
    unfold btL
    cases bt <;> first
      | exact sf_stuck
      | exact ls (g1 := g1) (m1 := m1) hst
      | exact pe_imp (pe_callB (by rw [← h.K]; exact cr_sortV h.xo.calm) g1 m1 PyProof.Rows.boot_sorted hA (by decide) (by decide) (star_eq hs.1) (stars_eq hs.2)) fun σ H Q q => tCBF_of f_sorted q
theorem sF (s : Sound Γ G r) (h : CtxOk Γ G X c k) (tk : Takes X W) (e : Expr) : PE X e (tOfF G Z W (cF Γ r c e)) := by
  unfold cF
  split
  · exact sf_lst (sAs s h tk _)
  · exact sLc s h tk
  · rename_i x p a as pos
    split
    · rename_i hst
      split
      · rename_i bt hg
        obtain ⟨e1, g1, m1⟩ := glob_blt h hg
        subst e1
        exact sFl s h tk g1 m1 hst
      · exact sf_stuck
    · exact sf_stuck
  · exact sf_op op_cat f_cat (s.E Z W X c k h tk _) (s.E Z W X c k h tk _)
  · exact sf_op op_rep f_rep (s.E Z W X c k h tk _) (s.E Z W X c k h tk _)
  · exact sf_stuck
theorem sSlotFn (h : CtxOk Γ G X c k) {bt : Bt} {j : Nat} (hj : slotE c a = some j) (g1 : Gl X (Str.ofString bt.nm)) (m1 : X.mg (Str.ofString bt.nm) = none) (hn : notStar a = true) :
    PE X (.Call (.Name (Str.ofString bt.nm) p) [a] [] pos) (tOf G Z W (cSlotFn bt j)) := by
  have ha : PA X [a] (tCons (tVar j) tNil) := pa_cons (slotE_var h hj) pa_nil (star_eq hn)
  have gen : ∀ g, btF bt = some g → PE X (.Call (.Name (Str.ofString bt.nm) p) [a] [] pos) (tOf G Z W (eFnB g j)) := fun g hg => by
    obtain ⟨r, h1, h2⟩ := bt_call (p := p) (pos := pos) h hg g1 m1 hn (es := []) rfl
    exact pe_imp (h2 _ ha) fun σ H Q q => tCBB_of h1 q
  have hK := h.K
  unfold cSlotFn
  split
  · exact pe_imp (pe_callB (by rw [← hK]; exact call_lenA) g1 m1 boot_len ha (by decide) (by decide) (star_eq hn) (stars_eq (es := []) rfl)) fun σ H Q q => tCBO_of d_len o_len q
  · exact pe_imp (pe_callTy (by rw [← hK]; exact call_tuple_of) g1 m1 PyProof.Rows.boot_tuple ha (by decide) (by decide) (star_eq hn) (stars_eq (es := []) rfl)) fun σ H Q q => tCBO_of d_tuple o_tuple q
  · exact pe_imp (pe_callB (by rw [← hK]; exact call_sumA h.xo.calm) g1 m1 PyProof.Rows.boot_sum ha (by decide) (by decide) (star_eq hn) (stars_eq (es := []) rfl)) fun σ H Q q => tCBO_of d_sum o_sum q
  · exact pe_imp (pe_callTy (by rw [← hK]; exact call_list_of) g1 m1 PyProof.Rows.boot_list ha (by decide) (by decide) (star_eq hn) (stars_eq (es := []) rfl)) fun σ H Q q => tCBO_of d_list o_list q
  · exact pe_imp (pe_callB (by rw [← hK]; exact cr_sortV h.xo.calm) g1 m1 PyProof.Rows.boot_sorted ha (by decide) (by decide) (star_eq hn) (stars_eq (es := []) rfl)) fun σ H Q q => tCBO_of d_sorted o_sorted q
  · split
    · rename_i g hg; exact gen g hg
    · exact se_stuck
theorem ty_nms {bt : Bt} {s : String} (h : bt.ty = some s) : s ∈ tyNames ∧ bt.nm = s ∧ bootBuiltins (Str.ofString s) = some (.type s) ∧ Str.ofString s ≠ "__name__" := by
  cases bt <;> simp only [Bt.ty] at h <;> try contradiction
  all_goals (cases h)
  · exact ⟨by decide, rfl, PyProof.Rows.boot_int, by decide⟩
  · exact ⟨by decide, rfl, PyProof.Rows.boot_tuple, by decide⟩
  · exact ⟨by decide, rfl, PyProof.Rows.boot_list, by decide⟩
  · exact ⟨by decide, rfl, PyProof.Rows.boot_bool, by decide⟩
  · exact ⟨by decide, rfl, PyProof.Rows.boot_str, by decide⟩
  · exact ⟨by decide, rfl, PyProof.Rows.boot_dict, by decide⟩
theorem sBt (s : Sound Γ G r) (h : CtxOk Γ G X c k) (tk : Takes X W) {bt : Bt} {as : List Expr} (g1 : Gl X (Str.ofString bt.nm)) (m1 : X.mg (Str.ofString bt.nm) = none) (hst : notStars (a :: as) = true) :
    PE X (.Call (.Name (Str.ofString bt.nm) p) (a :: as) [] pos) (tOf G Z W (cBt Γ r c bt a as)) := by
  have hs := stars1 hst
  have gen : ∀ g, btF bt = some g → PE X (.Call (.Name (Str.ofString bt.nm) p) (a :: as) [] pos) (tOf G Z W (eFn g (cA r c (a :: as)))) := fun g hg => by
    obtain ⟨r', h1, h2⟩ := bt_call (p := p) (pos := pos) h hg g1 m1 hs.1 hs.2
    exact pe_imp (h2 _ (sA s h tk _)) fun σ H Q q => tCB_of h1 q
  unfold cBt
  split
  · rename_i y py
    split
    · rename_i tb hg
      split
      · rename_i sn ht
        obtain ⟨e1, g2, m2⟩ := glob_blt h hg
        obtain ⟨n1, n2, n3, n4⟩ := ty_nms ht
        rw [n2] at e1 g2 m2
        subst e1
        exact se_isi h.K (s.E Z W X c k h tk _) n1 g1 m1 g2 m2 n3 n4 (h.tab _ _ (by
          have := hg
          unfold glob at this
          split at this
          · exact this
          · cases this)).db (star_eq hs.1)
      · exact se_stuck
    · exact se_stuck
  · split
    · rename_i b hb
      obtain ⟨p2, pos2, e1, g2, m2, hn⟩ := rgE_eq h hb
      subst e1
      exact se_ofF (sf_listRg h.xo.calm g1 m1 g2 m2 (s.E Z W X c k h tk b) (star_eq hn))
    · split
      · rename_i j hj
        exact sSlotFn h hj g1 m1 hs.1
      · exact gen gList rfl
  · split
    · rename_i b hb
      obtain ⟨p2, pos2, e1, g2, m2, hn⟩ := rgE_eq h hb
      subst e1
      exact se_tupRg h.xo.calm g1 m1 g2 m2 (s.E Z W X c k h tk b) (star_eq hn)
    · split
      · rename_i j hj
        exact sSlotFn h hj g1 m1 hs.1
      · exact gen gTuple rfl
  · split
    · rename_i j hj
      exact sSlotFn h hj g1 m1 hs.1
    · split
      · rename_i g hg; exact gen g hg
      · exact se_stuck
  · split
    · rename_i g hg; exact gen g hg
    · exact se_stuck
theorem sAnds (s : Sound Γ G r) (h : CtxOk Γ G X c k) (tk : Takes X W) : ∀ es, PE X (.BoolOp .And es pos) (tOf G Z W (cAnds r c es))
  | [] => se_stuck
  | [a] => pe_one (s.E Z W X c k h tk a)
  | a :: b :: rest => se_and h.K (s.E Z W X c k h tk a) (sAnds s h tk (b :: rest))
theorem sOrs (s : Sound Γ G r) (h : CtxOk Γ G X c k) (tk : Takes X W) : ∀ es, PE X (.BoolOp .Or es pos) (tOf G Z W (cOrs r c es))
  | [] => se_stuck
  | [a] => pe_one (s.E Z W X c k h tk a)
  | a :: b :: rest => se_or h.K (s.E Z W X c k h tk a) (sOrs s h tk (b :: rest))
theorem sCmp (s : Sound Γ G r) (h : CtxOk Γ G X c k) (tk : Takes X W) {op : CmpOp} (hm : nomk op b = true) : PE X (.Compare a [op] [b] pos) (tOf G Z W (cCmp r c a op b)) ∧ PT X (.Compare a [op] [b] pos) (tOfT G Z W (eTB (cCmp r c a op b))) := by
  obtain ⟨rr, h1, h2⟩ := opC_ok (X := X) h.K h.xo.room op
  have ha := s.E Z W X c k h tk a
  have hb := s.E Z W X c k h tk b
  unfold cCmp
  split
  · split
    · rename_i j hj; exact ⟨se_cmpR h1 h2 ha (slotE_var h hj) (nomk_eq hm), st_cmpR h1 h2 ha (slotE_var h hj) (nomk_eq hm)⟩
    · exact ⟨se_cmp h1 h2 ha hb (nomk_eq hm), st_cmp h1 h2 ha hb (nomk_eq hm)⟩
  · split
    · rename_i j hj; exact ⟨se_cmpL h1 h2 (slotE_var h hj) hb (nomk_eq hm), st_cmpL h1 h2 (slotE_var h hj) hb (nomk_eq hm)⟩
    · exact ⟨se_cmp h1 h2 ha hb (nomk_eq hm), st_cmp h1 h2 ha hb (nomk_eq hm)⟩
theorem sOpt (s : Sound Γ G r) (h : CtxOk Γ G X c k) (tk : Takes X W) : ∀ eo, PO X eo (tOfO G Z W (oPart (cOpt r c eo)))
  | none => so_none
  | some e => so_some (s.E Z W X c k h tk e)
theorem sLam (s : Sound Γ G r) (h : CtxOk Γ G X c k) {ps : Arguments} {body : Expr} {scope : Scope} {lpos : Pos} {l : List (Str × MA)} {fine : Str} (hc : (c.lam && (LamX.lamSB c.sc scope && noPar ps)) = true) (hg : glob Γ c x = some (.met l fine)) :
    PE X (.Call (.Name x p) [.Lambda ps body scope lpos] [] pos) (tOf G Z W (eMet (metOf (xmF Γ) (fldF Γ) l) fine (r.E ⟨c.N, scope, [], false, false⟩ body))) := by
  simp only [Bool.and_eq_true] at hc
  obtain ⟨h1, h2, h3⟩ := hc
  obtain ⟨g1, g2⟩ := glob_at h hg
  obtain ⟨rm, lo⟩ := h.lam h1
  have L : LamX.LamS X.env.scope scope := by rw [h.xo.sc]; exact LamX.lamS_by h2
  have ep : ps = ⟨[], [], none, [], [], none, []⟩ := by
    unfold noPar at h3
    split at h3
    · rfl
    · cases h3
  subst ep
  refine se_met h.xo.K h.xo.mg h.xo.guards rm g1 g2.is lo h.xm (fun c f e => ?_) L rfl (fun _ _ _ _ _ => by rfl) (fun A outer s0 H E fa c2 r1 r2 => ?_) g2.db
  · unfold fldF at e
    split at e
    · rename_i f' hl
      subst e
      have := (h.tab _ _ hl).is
      exact let ⟨_, _, _, _, _, _, _, _, _, _, _, _, _, _, _, e⟩ := this; e
    · cases e
  · have ck : CtxOk Γ G (LamX.lamCx X A outer s0 H E scope fa c2) ⟨c.N, scope, [], false, false⟩ k :=
      { xo := ⟨h.xo.N, rfl, h.xo.nd, rfl, h.xo.K, h.xo.mg, r1, r2⟩
        kind := L.kind
        sto := fun y hy => by cases hy
        nodeb := h.nodeb
        tab := fun y gi hy => ⟨(h.tab y gi hy).db, (h.tab y gi hy).is⟩
        xm := h.xm
        lam := fun z => by cases z
        top := fun z => by cases z }
    exact s.E Z _ _ _ k ck (takes_of rfl rfl rfl rfl) body
theorem sE (s : Sound Γ G r) (h : CtxOk Γ G X c k) (tk : Takes X W) (e : Expr) : PE X e (tOf G Z W (cE Γ r c e)) := by
  unfold cE
  split
  · exact se_c pe_int fun _ _ => .int _
  · exact se_c pe_bl fun _ _ => .bl _
  · exact se_c pe_str fun _ _ => .str _
  · exact se_c pe_non fun _ _ => .non
  · rename_i x pos
    split
    · rename_i j hj; exact se_var (slot_var h hj)
    · split
      · rename_i np io F hg
        obtain ⟨g1, g2⟩ := glob_at h hg
        obtain ⟨f, fd, ps, m1, _⟩ := g2.is.ex
        exact se_c (pe_glob (v := .ref f) g1 (by rw [h.xo.mg]; exact m1) rfl g2.db) fun _ _ => .fn m1
      · rename_i d hg
        obtain ⟨g1, g2⟩ := glob_at h hg
        obtain ⟨v, u, m1, rv, rp⟩ := g2.is
        exact se_c (pe_glob g1 (by rw [h.xo.mg]; exact m1) rv g2.db) rp
      · exact se_stuck
  · rename_i a op b pos
    split
    · exact se_ofF (s.F Z W X c k h tk _)
    · split
      · rename_i g hg
        obtain ⟨rr, h1, h2⟩ := opB_ok (X := X) h.K hg
        exact se_op h1 h2 (s.E Z W X c k h tk a) (s.E Z W X c k h tk b)
      · exact se_stuck
  · exact se_un un_neg d_neg (s.E Z W X c k h tk _)
  · exact se_notV h.K (s.E Z W X c k h tk _)
  · exact sAnds s h tk _
  · exact sOrs s h tk _
  · split
    · rename_i hm; exact (sCmp s h tk hm).1
    · exact se_stuck
  · rename_i a op op' b d pos
    split
    · rename_i hm
      obtain ⟨r1, h1, h2⟩ := opC_ok (X := X) h.K h.xo.room op
      obtain ⟨r2, h3, h4⟩ := opC_ok (X := X) h.K h.xo.room op'
      exact se_chain h1 h3 h2 h4 (s.E Z W X c k h tk _) (s.E Z W X c k h tk _) (s.E Z W X c k h tk _) (nomk_eq hm)
    · exact se_stuck
  · rename_i a op op' op'' b d f pos
    split
    · rename_i hm
      obtain ⟨r1, h1, h2⟩ := opC_ok (X := X) h.K h.xo.room op
      obtain ⟨r2, h3, h4⟩ := opC_ok (X := X) h.K h.xo.room op'
      obtain ⟨r3, h5, h6⟩ := opC_ok (X := X) h.K h.xo.room op''
      exact se_chain3 h1 h3 h5 h2 h4 h6 (s.E Z W X c k h tk _) (s.E Z W X c k h tk _) (s.E Z W X c k h tk _) (s.E Z W X c k h tk _) (nomk_eq hm)
    · exact se_stuck
  · rename_i x p ps body scope lpos pos
    split
    · rename_i hc
      split
      · rename_i l fine hg; exact sLam s h hc hg
      · exact se_stuck
    · exact se_stuck
  · rename_i x p a as pos _
    split
    · rename_i hst
      split
      · rename_i bt hg
        obtain ⟨e1, g1, m1⟩ := glob_blt h hg
        subst e1
        exact sBt s h tk g1 m1 hst
      · rename_i np io F hg
        obtain ⟨g1, g2⟩ := glob_at h hg
        split
        · exact se_callL h.xo tk g2.is g1 (sB s h tk _ (a :: as)) g2.db (star_eq (stars1 hst).1) (stars_eq (stars1 hst).2)
        · exact se_call h.xo tk g2.is g1 (sB s h tk io (a :: as)) g2.db (star_eq (stars1 hst).1) (stars_eq (stars1 hst).2)
      · split
        · rename_i j hj
          refine se_callD h.xo tk (slot_var h hj) (fun y np F e => ?_) (sB s h tk _ (a :: as)) (star_eq (stars1 hst).1) (stars_eq (stars1 hst).2)
          unfold fnF at e
          split at e
          · rename_i np' io' F' hl
            split at e
            · cases e; exact (h.tab _ _ hl).is
            · cases e
          · cases e
        · exact se_stuck
      · exact se_stuck
    · exact se_stuck
  · rename_i x p m apos cpos
    split
    · rename_i j hj
      split
      · rename_i hm
        simp only [Bool.and_eq_true, sameS, decide_eq_true_eq] at hm
        obtain ⟨hm1, hm2⟩ := hm
        subst hm1
        exact se_pop (slot_var h hj) hm2
      · exact se_stuck
    · exact se_stuck
  · rename_i x p m apos a cpos
    have hu := h.xo.room.un
    split
    · rename_i j hj
      split
      · rename_i hc
        simp only [Bool.and_eq_true] at hc
        split
        · rename_i hm
          simp only [sameS, decide_eq_true_eq] at hm
          subst hm
          exact se_index h.K (by omega) (slot_var h hj) (s.E Z W X c k h tk a) (star_eq hc.1) hc.2
        · split
          · rename_i hm
            simp only [sameS, decide_eq_true_eq] at hm
            subst hm
            exact se_count h.K (by omega) (slot_var h hj) (s.E Z W X c k h tk a) (star_eq hc.1) hc.2
          · split
            · rename_i hm
              simp only [sameS, decide_eq_true_eq] at hm
              subst hm
              exact se_popAt (slot_var h hj) (s.E Z W X c k h tk a) (star_eq hc.1) hc.2
            · exact se_stuck
      · exact se_stuck
    · exact se_stuck
  · exact se_if (s.T Z W X c k h tk _) (s.E Z W X c k h tk _) (s.E Z W X c k h tk _)
  · exact se_rev h.K (s.E Z W X c k h tk _)
  · exact se_slice h.K (s.E Z W X c k h tk _) (sOpt s h tk _) (sOpt s h tk _)
  · rename_i a ix pos _ _
    split
    · rename_i hn
      split
      · rename_i j hj; exact se_ixB h.K (slotE_var h hj) (s.E Z W X c k h tk ix) (plain_eq hn)
      · exact se_ix ix_A (by rw [h.K]; exact d_ix) (s.E Z W X c k h tk a) (s.E Z W X c k h tk ix) (plain_eq hn)
    · exact se_stuck
  · exact se_tup (sAs s h tk _)
  · exact se_dct0
  · exact sDc s h tk
  · exact se_ofF (s.F Z W X c k h tk _)
  · exact se_ofF (s.F Z W X c k h tk _)
  · exact se_stuck
end
end PL

namespace PL
open PySem PySem.Spec PyProof.Rows L2

/-! ### tests -/
def cW (r : Cmp) (c : SC) (op : BoolOp) : List Expr → M Bool
  | [] => eStuck
  | [a] => r.T c a
  | a :: b :: rest => match op with
    | .And => tAndM (r.T c a) (cW r c op (b :: rest))
    | .Or => tOrM (r.T c a) (cW r c op (b :: rest))
def cT (r : Cmp) (c : SC) (e : Expr) : M Bool := match e with
  | .UnaryOp .Not a _ => tNotM (r.T c a)
  | .BoolOp op es _ => cW r c op es
  | .Compare a [op] [b] _ => if nomk op b then eTB (cCmp r c a op b) else eStuck
  | .Compare a [op, op'] [b, d] _ => if nomk op' d then eTB (eChain (opC op) (opC op') (r.E c a) (r.E c b) (r.E c d)) else eStuck
  | .IfExp t a b _ => tIfM (r.T c t) (r.T c a) (r.T c b)
  | e => if plainT e then (match slotE c e with
    | some j => eTruB j
    | none => eTru (r.E c e)) else eStuck
/-! ### a value or a fresh list -/
def cU (Γ : Gm) (r : Cmp) (c : SC) (e : Expr) : M SV := if isF Γ c e then uOwn (r.F c e) else match e with
  | .Call (.Name x _) (a :: as) [] _ => (match glob Γ c x with
    | some (.fn np io F) => if notStars (a :: as) then (if anyLend c io (a :: as) then uCallL io np F (cB r c ((a :: as).map fun _ => true) (a :: as)) else uCall np F (cB r c io (a :: as))) else eStuck
    | _ => uVal (r.E c e))
  | e => uVal (r.E c e)
def cUA (Γ : Gm) (r : Cmp) (c : SC) : List Expr → M (List SV)
  | [] => uNil
  | e :: es => if notStar e then uCons (cU Γ r c e) (cUA Γ r c es) else eStuck
/-! ### statements -/
def cSs (r : Cmp) (c : SC) : List Stmt → M O
  | [] => ret .next
  | st :: rest => sSeq (r.S c st) (cSs r c rest)
def swNames (sc : Scope) (ts : List Expr) : List Str := ts.filterMap fun
  | .Name id pos => if sc.names.lookup id == some .local && pos.line == ((ts.head?.map (·.pos.line)).getD 0) then some id else none
  | _ => none
/-- no swap -/
def swNo (sc : Scope) (ts vs : List Expr) : Bool := !(ts.length == 2 || ts.length == 3) || vs.length != ts.length || (swNames sc ts).length != ts.length || (swNames sc ts).eraseDups.length != (swNames sc ts).length || vs.all (foldedForSure 8)
def swYes (sc : Scope) (ts vs : List Expr) : Bool := (ts.length == 2 || ts.length == 3) && vs.length == ts.length && notStars vs && (swNames sc ts).length == ts.length && (swNames sc ts).eraseDups.length == (swNames sc ts).length && !vs.all (foldedForSure 8) && !vs.all (constantsAlone 8)
def locK (c : SC) (x : Str) : Option Nat := if c.sc.names.lookup x = some .local then idxOf c.N x else none
def noClash (scope : Scope) (y : Str) : Bool := !(scope.names.any fun (n, k) => n == y && (k == .local || k == .cell))
def cAsg1 (Γ : Gm) (r : Cmp) (c : SC) (y : Str) (py : Pos) (e : Expr) : M O := match e with
  | .ListComp elt [⟨tg, iter, ifs, 0⟩] scope pos => (match locK c y with
    | some i => if py.line == pos.line && noClash scope y then sSetO i (cLc Γ r c elt tg iter ifs scope) else sSetU i (cU Γ r c e)
    | none => (match stor c y with
      | some i => if c.sc.names.lookup y == some .local then sStuck else sSetU i (cU Γ r c e)
      | none => sStuck))
  | e => if notComp e then (match stor c y with
    | some i => sSetU i (cU Γ r c e)
    | none => sStuck) else sStuck
/-- may be a fresh list -/
def mayOwn (Γ : Gm) (c : SC) (e : Expr) : Bool := isF Γ c e || (match e with
  | .Call (.Name x _) _ _ _ => (match glob Γ c x with
    | some (.fn _ _ _) => true
    | _ => false)
  | _ => false)
def cAsgV (Γ : Gm) (r : Cmp) (c : SC) (ts : List Expr) (kt : Nat) (pt : Pos) (vs : List Expr) (e : Expr) : M O := if vs.any (mayOwn Γ c) then (match cGs c 8 ts with
    | some t => sAsgU t (cUA Γ r c vs)
    | none => sStuck) else (match cG c 8 (.Tuple ts kt pt) with
    | some t => sAsg t (r.E c e)
    | none => sStuck)
def cAsgT (Γ : Gm) (r : Cmp) (c : SC) (ts : List Expr) (kt : Nat) (pt : Pos) (e : Expr) : M O := match ts, e with
  | [.Name x px, .Name y py], .Tuple [a, b] _ _ => if swYes c.sc [.Name x px, .Name y py] [a, b] then (match locK c x, locK c y with
      | some i, some j => if i = j then sStuck else sPar2 i j (cUA Γ r c [a, b])
      | _, _ => sStuck) else (if swNo c.sc [.Name x px, .Name y py] [a, b] then cAsgV Γ r c [.Name x px, .Name y py] kt pt [a, b] e else sStuck)
  | [.Name x px, .Name y py, .Name z pz], .Tuple [a, b, d] _ _ => if swYes c.sc [.Name x px, .Name y py, .Name z pz] [a, b, d] then (match locK c x, locK c y, locK c z with
      | some i, some j, some l => if i = j ∨ i = l ∨ j = l then sStuck else sPar3 i j l (cUA Γ r c [a, b, d])
      | _, _, _ => sStuck) else (if swNo c.sc [.Name x px, .Name y py, .Name z pz] [a, b, d] then cAsgV Γ r c [.Name x px, .Name y py, .Name z pz] kt pt [a, b, d] e else sStuck)
  | [.Subscript (.Name x px) i1 q1, .Subscript (.Name y py) i2 q2], .Tuple [a, b] _ _ => if swNo c.sc [.Subscript (.Name x px) i1 q1, .Subscript (.Name y py) i2 q2] [a, b] && notSlice i1 && notSlice i2 then (match slot c x, slot c y with
      | some i, some j => sSetTwo i j (r.E c i1) (r.E c i2) (r.E c e)
      | _, _ => sStuck) else sStuck
  | ts, .Tuple vs _ _ => if swNo c.sc ts vs then cAsgV Γ r c ts kt pt vs e else sStuck
  | ts, e => if notTup e && notComp e then (match cG c 8 (.Tuple ts kt pt) with
      | some t => sAsg t (r.E c e)
      | none => sStuck) else sStuck
/-! ### try whose clauses return -/
def hdM (i : Nat) (Ng : List Str) (sg : Scope) : List ExceptHandler → Option (List (Str × MA))
  | [] => some []
  | .ExceptHandler (some (.Name c _)) none [.Return (some (.Constant (.str t) _ _)) _] _ :: r =>
    if decide (sg.names.lookup c = some .globalImplicit) && !(c == ("__debug__" : Str)) then (match hdM i Ng sg r with
      | some l => some ((c, .txt t) :: l)
      | none => none) else none
  | .ExceptHandler (some (.Name c _)) (some n) [.Return (some (.Attribute (.Name m _) f _)) _] _ :: r =>
    if decide (sg.names.lookup c = some .globalImplicit) && !(c == ("__debug__" : Str)) && decide (Ng[i]? = some n) && decide (sg.names.lookup n = some .local) && !(n == ("__debug__" : Str)) && !(n == ("__classdict__" : Str)) && decide (m = n) then (match hdM i Ng sg r with
      | some l => some ((c, .raw f) :: l)
      | none => none) else none
  | .ExceptHandler (some (.Name c _)) (some n) [.Return (some (.Subscript (.Attribute (.Name m _) f _) (.Constant (.int z) _ _) _)) _] _ :: r =>
    if decide (sg.names.lookup c = some .globalImplicit) && !(c == ("__debug__" : Str)) && decide (Ng[i]? = some n) && decide (sg.names.lookup n = some .local) && !(n == ("__debug__" : Str)) && !(n == ("__classdict__" : Str)) && decide (m = n) then (match hdM i Ng sg r with
      | some l => some ((c, .ix f z) :: l)
      | none => none) else none
  | .ExceptHandler (some (.Name c _)) (some n) [.Return (some (.BinOp (.Constant (.str pre) _ _) .Add (.Call (.Name q _) [.Attribute (.Name m _) f _] [] _) _)) _] _ :: r =>
    if decide (sg.names.lookup c = some .globalImplicit) && !(c == ("__debug__" : Str)) && decide (Ng[i]? = some n) && decide (sg.names.lookup n = some .local) && !(n == ("__debug__" : Str)) && !(n == ("__classdict__" : Str)) && decide (m = n) && decide (q = ("repr" : Str)) && decide (sg.names.lookup ("repr" : Str) = some .globalImplicit) then (match hdM i Ng sg r with
      | some l => some ((c, .rep pre f) :: l)
      | none => none) else none
  | _ => none
theorem hdM_ok {i : Nat} {Ng : List Str} {sg : Scope} : ∀ (hds : List ExceptHandler) (l : List (Str × MA)), hdM i Ng sg hds = some l → HdM i Ng sg hds l := by
  intro hds
  fun_induction hdM i Ng sg hds with
  | case1 => intro l e; cases e; exact .nil
  | case2 c _ t _ _ _ _ r hc l' e ih =>
    intro l h
    cases h
    simp only [Bool.and_eq_true, decide_eq_true_eq, Bool.not_eq_true'] at hc
    exact .txt hc.1 hc.2 (ih _ e)
  | case5 c _ n m _ f _ _ _ r hc l' e ih =>
    intro l h
    cases h
    simp only [Bool.and_eq_true, decide_eq_true_eq, Bool.not_eq_true'] at hc
    obtain ⟨⟨⟨⟨⟨⟨h1, h2⟩, h3⟩, h4⟩, h5⟩, h6⟩, rfl⟩ := hc
    exact .raw h1 h2 h3 h4 h5 h6 (ih _ e)
  | case8 c _ n m _ f _ z _ _ _ _ _ r hc l' e ih =>
    intro l h
    cases h
    simp only [Bool.and_eq_true, decide_eq_true_eq, Bool.not_eq_true'] at hc
    obtain ⟨⟨⟨⟨⟨⟨h1, h2⟩, h3⟩, h4⟩, h5⟩, h6⟩, rfl⟩ := hc
    exact .ix h1 h2 h3 h4 h5 h6 (ih _ e)
  | case11 c _ n pre _ _ q _ m _ f _ _ _ _ _ r hc l' e ih =>
    intro l h
    cases h
    simp only [Bool.and_eq_true, decide_eq_true_eq, Bool.not_eq_true'] at hc
    obtain ⟨⟨⟨⟨⟨⟨⟨⟨h1, h2⟩, h3⟩, h4⟩, h5⟩, h6⟩, rfl⟩, rfl⟩, h7⟩ := hc
    exact .rep h1 h2 h3 h4 h5 h6 h7 (ih _ e)
  | _ => intro l h; cases h
def sTry (i : Nat) (met : Ex → Option D) (b : M O) : M O := fun env => match b env with
  | .ok o e => .ok o e
  | .exc x e => (match met x with
    | some d => if i < e.length then .ok (.ret (.val d)) e else .stuck
    | none => .stuck)
  | .stuck => .stuck
def tryNm : List ExceptHandler → Option Str
  | .ExceptHandler _ (some n) _ _ :: _ => some n
  | _ :: r => tryNm r
  | [] => none
def excOk (Γ : Gm) (q : Str × MA) : Bool := match q with
  | (c, .raw f) => (match Γ.tab.lookup c with
    | some (.exc (some f')) => decide (f = f')
    | _ => false)
  | _ => false
def isRepr (Γ : Gm) : Bool := match Γ.tab.lookup ("repr" : Str) with
  | some (.blt _) => true
  | _ => false
def cTry (Γ : Gm) (r : Cmp) (c : SC) (bd : List Stmt) (hds : List ExceptHandler) : M O := if c.tr then (match tryNm hds with
  | some n => (match locK c n with
    | some i => (match hdM i c.N c.sc hds with
      | some l => if l.all (excOk Γ) && isRepr Γ then sTry i (metOf (xmF Γ) (fldF Γ) l) (cSs r c bd) else sStuck
      | none => sStuck)
    | none => sStuck)
  | none => sStuck) else sStuck
def cS (Γ : Gm) (r : Cmp) (c : SC) (st : Stmt) : M O := match st with
  | .Pass _ => ret .next
  | .Break _ => ret .brk
  | .Continue _ => ret .cnt
  | .Expr (.Constant (.str _) _ _) _ => ret .next
  | .Expr (.Call (.Attribute (.Name x _) m apos) [a] [] cpos) _ => (match slot c x with
    | some j => if notStar a && apos.endLine == cpos.line then (if sameS m "append" then sApp j (r.E c a) else if sameS m "extend" then sExt j (r.E c a) else if sameS m "remove" then sRem j (r.E c a) else sStuck) else sStuck
    | none => sStuck)
  | .Expr e _ => if notComp e then sExpr (r.E c e) else sStuck
  | .Return none _ => sRetN
  | .Return (some e) _ => (match slotE c e with
    | some j => sRetV j
    | none => sRetU (cU Γ r c e))
  | .If t a b _ => sIf (r.T c t) (cSs r c a) (cSs r c b)
  | .While t b [] _ => whileN (r.T c t) (cSs r c b) Γ.fu
  | .For tg iter b [] _ => if notSet iter then (match cG c 8 tg with
    | some t => sFor (cI Γ r c tg iter) t (cSs r c b)
    | none => sStuck) else sStuck
  | .Assign [.Name y py] e _ => cAsg1 Γ r c y py e
  | .Assign [.Tuple ts kt pt] e _ => cAsgT Γ r c ts kt pt e
  | .Delete [.Subscript (.Name x _) ix _] _ => (match slot c x with
    | some j => sDel j (r.E c ix)
    | none => sStuck)
  | .Assign [.Subscript (.Name x _) ix _] e _ => (match slot c x with
    | some j => if notSlice ix && notComp e && notTup e then sSetIx j (r.E c ix) (r.E c e) else sStuck
    | none => sStuck)
  | .Raise (some (.Call (.Name x _) [e] [] _)) none _ => (match glob Γ c x with
    | some (.exc none) => (match e with
      | .Constant (.str _) _ _ => sRaise0 x
      | _ => sStuck)
    | some (.exc (some _)) => if notStar e then sRaise1 x (r.E c e) else sStuck
    | _ => sStuck)
  | .AugAssign (.Name y _) op e _ => (match stor c y, opI op with
    | some i, some g => sAug i g (r.E c e)
    | _, _ => sStuck)
  | .AugAssign (.Subscript (.Name x _) ix _) op e _ => (match slot c x, opI op with
    | some j, some g => if notSlice ix then sAugIx j g (r.E c ix) (r.E c e) else sStuck
    | _, _ => sStuck)
  | .Try bd (h₀ :: hds) [] [] _ => cTry Γ r c bd (h₀ :: hds)
  | _ => sStuck

section
variable {Γ : Gm} {G : Gx} {Z : Zx} {W : WX} {X : Cx} {c : SC} {k : Nat} {x : Str} {i : Nat} {gi : GI} {pos p : Pos} {e a b : Expr} {es : List Expr} {r : Cmp}
theorem sW (s : Sound Γ G r) (h : CtxOk Γ G X c k) (tk : Takes X W) (op : BoolOp) : ∀ es, PW X (.BoolOp op es pos) (tOfT G Z W (cW r c op es))
  | [] => sw_stuck
  | [a] => by
    cases op
    · exact pw_and1 (s.T Z W X c k h tk a)
    · exact pw_or1 (s.T Z W X c k h tk a)
  | a :: b :: rest => by
    cases op
    · exact sw_and (s.T Z W X c k h tk a) (sW s h tk .And (b :: rest))
    · exact sw_or (s.T Z W X c k h tk a) (sW s h tk .Or (b :: rest))
theorem sT (s : Sound Γ G r) (h : CtxOk Γ G X c k) (tk : Takes X W) (e : Expr) : PT X e (tOfT G Z W (cT r c e)) := by
  unfold cT
  split
  · exact st_not (s.T Z W X c k h tk _)
  · exact (sW s h tk _ _).pt
  · split
    · rename_i hm; exact (sCmp s h tk hm).2
    · exact st_stuck
  · rename_i a op op' b d pos
    split
    · rename_i hm
      obtain ⟨r1, h1, h2⟩ := opC_ok (X := X) h.K h.xo.room op
      obtain ⟨r2, h3, h4⟩ := opC_ok (X := X) h.K h.xo.room op'
      exact st_chain h1 h3 h2 h4 (s.E Z W X c k h tk _) (s.E Z W X c k h tk _) (s.E Z W X c k h tk _) (nomk_eq hm)
    · exact st_stuck
  · exact st_ifx (s.T Z W X c k h tk _) (s.T Z W X c k h tk _) (s.T Z W X c k h tk _)
  · split
    · rename_i hp
      split
      · rename_i j hj; exact st_truB h.K (slotE_var h hj) (truth_eq hp)
      · exact st_tru h.K (s.E Z W X c k h tk _) (truth_eq hp)
    · exact st_stuck
theorem sU (s : Sound Γ G r) (h : CtxOk Γ G X c k) (tk : Takes X W) (e : Expr) : PE X e (tOfU G Z W (cU Γ r c e)) := by
  unfold cU
  split
  · exact su_own (s.F Z W X c k h tk e)
  · split
    · rename_i x p a as pos _
      split
      · rename_i np io F hg
        split
        · rename_i hst
          obtain ⟨g1, g2⟩ := glob_at h hg
          split
          · exact su_callL h.xo tk g2.is g1 (sB s h tk _ (a :: as)) g2.db (star_eq (stars1 hst).1) (stars_eq (stars1 hst).2)
          · exact su_call h.xo tk g2.is g1 (sB s h tk io (a :: as)) g2.db (star_eq (stars1 hst).1) (stars_eq (stars1 hst).2)
        · exact su_stuck
      · exact su_val (s.E Z W X c k h tk _)
    · exact su_val (s.E Z W X c k h tk _)
theorem sUA (s : Sound Γ G r) (h : CtxOk Γ G X c k) (tk : Takes X W) : ∀ es, PA X es (tOfUA G Z W (cUA Γ r c es))
  | [] => sua_nil
  | e :: es => by
    unfold cUA
    split
    · rename_i hn; exact sua_cons (sU s h tk e) (sUA s h tk es) (star_eq hn)
    · exact sua_stuck
theorem sSs (s : Sound Γ G r) (h : CtxOk Γ G X c k) (tk : Takes X W) (hp : PassesOwn (model X.prog X.w) X.A X.env X.xe) : ∀ sts, PSs X sts (tOfS G Z W (cSs r c sts))
  | [] => ss_nil
  | st :: rest => ss_cons (s.S Z W X c k h tk hp st) (sSs s h tk hp rest)
theorem locK_at (h : CtxOk Γ G X c k) (e : locK c x = some i) : X.N[i]? = some x ∧ X.env.scope.names.lookup x = some .local := by
  unfold locK at e
  split at e <;> try contradiction
  rename_i hv
  exact ⟨by rw [h.xo.N]; exact idxOf_at e, by rw [h.xo.sc]; exact hv⟩
theorem blockK (h : CtxOk Γ G X c k) : X.env.blockKind = .function := by
  unfold PySem.Env.blockKind
  rw [h.xo.sc, h.kind]; rfl
theorem any_star {vs : List Expr} (h : notStars vs = true) : (vs.any fun | .Starred .. => true | _ => false) = false := by
  induction vs with
  | nil => rfl
  | cons v vs ih =>
    have h2 := stars1 h
    rw [List.any_cons, ih h2.2]
    cases v <;> first
      | (cases h2.1; done)
      | rfl
theorem sw_shape (h : CtxOk Γ G X c k) {ts vs : List Expr} {kt k2 : Nat} {pt p2 : Pos} : swappedStores [.Tuple ts kt pt] (.Tuple vs k2 p2) X.env =
    (if (!(ts.length == 2 || ts.length == 3) || vs.length != ts.length || X.env.blockKind != .function) = true then pure none else
     if (vs.any fun | .Starred .. => true | _ => false) = true then pure none else
     if ((swNames c.sc ts).length != ts.length || (swNames c.sc ts).eraseDups.length != (swNames c.sc ts).length) = true then pure none else
     if (vs.all (foldedForSure 8)) = true then pure none else
     if (vs.all (constantsAlone 8)) = true then (do unsupported "assign.tuple-of-constant-expressions:order-of-the-stores"; pure (some (swNames c.sc ts))) else pure (some (swNames c.sc ts))) := by
  unfold swappedStores swNames
  rw [← h.xo.sc]
  rfl
theorem sw_no (h : CtxOk Γ G X c k) {ts vs : List Expr} {kt k2 : Nat} {pt p2 : Pos} (e : swNo c.sc ts vs = true) : swappedStores [.Tuple ts kt pt] (.Tuple vs k2 p2) X.env = pure none := by
  rw [sw_shape h]
  unfold swNo at e
  simp only [Bool.or_eq_true] at e
  split
  · rfl
  · rename_i h1
    split
    · rfl
    · split
      · rfl
      · rename_i h3
        split
        · rfl
        · rename_i h4
          simp only [Bool.or_eq_true] at h1 h3
          rcases e with (((e | e) | e) | e) | e
          · exact absurd (.inl (.inl e)) h1
          · exact absurd (.inl (.inr e)) h1
          · exact absurd (.inl e) h3
          · exact absurd (.inr e) h3
          · exact absurd e h4
theorem sw_yes (h : CtxOk Γ G X c k) {ts vs : List Expr} {kt k2 : Nat} {pt p2 : Pos} (e : swYes c.sc ts vs = true) : swappedStores [.Tuple ts kt pt] (.Tuple vs k2 p2) X.env = pure (some (swNames c.sc ts)) ∧ notStars vs = true := by
  rw [sw_shape h]
  unfold swYes at e
  simp only [Bool.and_eq_true] at e
  obtain ⟨⟨⟨⟨⟨⟨e1, e2⟩, e3⟩, e4⟩, e5⟩, e6⟩, e7⟩ := e
  refine ⟨?_, e3⟩
  rw [if_neg (by rw [blockK h]; simp only [bne, e1, e2]; decide), if_neg (by rw [any_star e3]; decide), if_neg (by simp only [bne, e4, e5]; decide), if_neg (by simpa using e6), if_neg (by simpa using e7)]
theorem ite_some {C : Prop} [Decidable C] {x b : Str} (h : (if C then some x else none) = some b) : b = x := by
  split at h
  · exact (Option.some.inj h).symm
  · cases h
theorem swN2 {sc : Scope} {x y : Str} {px py : Pos} (h1 : sc.names.lookup x = some .local) (h2 : sc.names.lookup y = some .local) (h : (swNames sc [.Name x px, .Name y py]).length = 2) : swNames sc [.Name x px, .Name y py] = [x, y] := by
  unfold swNames at h ⊢
  simp only [List.filterMap_cons, List.filterMap_nil, h1, h2] at h ⊢
  revert h
  split <;> split <;> try (intro h; simp at h; done)
  rename_i _ _ q1 _ _ q2
  intro _
  rw [ite_some q1, ite_some q2]
theorem swN3 {sc : Scope} {x y z : Str} {px py pz : Pos} (h1 : sc.names.lookup x = some .local) (h2 : sc.names.lookup y = some .local) (h3 : sc.names.lookup z = some .local) (h : (swNames sc [.Name x px, .Name y py, .Name z pz]).length = 3) : swNames sc [.Name x px, .Name y py, .Name z pz] = [x, y, z] := by
  unfold swNames at h ⊢
  simp only [List.filterMap_cons, List.filterMap_nil, h1, h2, h3] at h ⊢
  revert h
  split <;> split <;> split <;> try (intro h; simp at h; done)
  rename_i _ _ q1 _ _ q2 _ _ q3
  intro _
  rw [ite_some q1, ite_some q2, ite_some q3]
theorem sole_tup {env : PySem.Env} {ts : List Expr} {e : Expr} {kt l : Nat} {pt : Pos} (hn : notComp e = true) : swapsWithSole [.Tuple ts kt pt] e l env = pure false := sole_eq hn
theorem sAsgG (s : Sound Γ G r) (h : CtxOk Γ G X c k) (tk : Takes X W) {ts : List Expr} {kt : Nat} {pt : Pos} {e : Expr} (hn : notComp e = true) (hw : swappedStores [.Tuple ts kt pt] e X.env = pure none) :
    PS X (.Assign [.Tuple ts kt pt] e pos) (tOfS G Z W (match cG c 8 (.Tuple ts kt pt) with
      | some t => sAsg t (r.E c e)
      | none => sStuck)) := by
  split
  · rename_i t ht
    exact ss_asg (s.E Z W X c k h tk e) (sG h 8 _ t ht) (sole_tup hn) hw (by rfl)
  · exact ss_stuck
theorem sw_shapeL {env : PySem.Env} {elt : Expr} {gs : List Comprehension} {scope : Scope} {pos py : Pos} {y : Str} {l : Nat} : swapsWith (.ListComp elt gs scope pos) (some (.Name y py)) l env = pure (env.blockKind == .function && env.kindOf y == some .local && py.line == pos.line && !(scope.names.any fun (n, k) => n == y && (k == .local || k == .cell))) := by
  unfold swapsWith
  rfl
theorem sAsgV (s : Sound Γ G r) (h : CtxOk Γ G X c k) (tk : Takes X W) {ts vs : List Expr} {kt k2 : Nat} {pt p2 : Pos} (hw : swappedStores [.Tuple ts kt pt] (.Tuple vs k2 p2) X.env = pure none) :
    PS X (.Assign [.Tuple ts kt pt] (.Tuple vs k2 p2) pos) (tOfS G Z W (cAsgV Γ r c ts kt pt vs (.Tuple vs k2 p2))) := by
  unfold cAsgV
  split
  · split
    · rename_i t ht
      obtain ⟨g1, g2, g3⟩ := sGsU (Z := Z) h 8 ts t ht
      exact ss_asgU h.xo.calm h.xo.K (sUA s h tk vs) g1 (by rw [each_len]; exact g2) (each_nostar g3) (sole_tup rfl) hw
    · exact ss_stuck
  · exact sAsgG s h tk rfl hw
theorem sAsg1 (s : Sound Γ G r) (h : CtxOk Γ G X c k) (tk : Takes X W) {y : Str} {py : Pos} (e : Expr) : PS X (.Assign [.Name y py] e pos) (tOfS G Z W (cAsg1 Γ r c y py e)) := by
  unfold cAsg1
  split
  · rename_i elt tg iter ifs scope pos'
    split
    · rename_i i hi
      split
      · rename_i hc
        simp only [Bool.and_eq_true] at hc
        obtain ⟨h1, h2⟩ := locK_at h hi
        refine sLcS s h tk h1 h2 (sw_true (by rw [h.xo.sc]; exact h.kind) h2 hc.1 ?_)
        have := hc.2
        unfold noClash at this
        simpa using this
      · rename_i hc
        obtain ⟨h1, h2⟩ := locK_at h hi
        refine ss_setU h.xo.nd h1 (.inl h2) (sU s h tk _) ?_ (.inr h2)
        rw [sw_shapeL]
        congr 1
        have e : (py.line == pos'.line && noClash scope y) = false := by simpa using hc
        unfold noClash at e
        cases h3 : (py.line == pos'.line) with
        | false => simp
        | true => rw [h3] at e; simp at e; simp [e]
    · split
      · rename_i i hi
        split
        · exact ss_stuck
        · rename_i hk
          obtain ⟨h1, h2, h3⟩ := stor_at h hi
          refine ss_setU h.xo.nd h1 h2 (sU s h tk _) ?_ h3
          rw [sw_shapeL]
          congr 1
          have e : (X.env.kindOf y == some NameKind.local) = false := by
            show (X.env.scope.names.lookup y == some NameKind.local) = false
            rw [h.xo.sc]
            simpa using hk
          rw [e, Bool.and_false, Bool.false_and, Bool.false_and]
      · exact ss_stuck
  · split
    · rename_i hn
      split
      · rename_i i hi
        obtain ⟨h1, h2, h3⟩ := stor_at h hi
        exact ss_setU h.xo.nd h1 h2 (sU s h tk e) (swaps_eq hn) h3
      · exact ss_stuck
    · exact ss_stuck
theorem sAsgT (s : Sound Γ G r) (h : CtxOk Γ G X c k) (tk : Takes X W) {ts : List Expr} {kt : Nat} {pt : Pos} (e : Expr) : PS X (.Assign [.Tuple ts kt pt] e pos) (tOfS G Z W (cAsgT Γ r c ts kt pt e)) := by
  unfold cAsgT
  split
  · rename_i x px y py a b k2 p2
    split
    · rename_i hy
      obtain ⟨w1, w2⟩ := sw_yes (kt := kt) (pt := pt) (k2 := k2) (p2 := p2) h hy
      split
      · rename_i i j hi hj
        split
        · exact ss_stuck
        · rename_i hij
          obtain ⟨i1, i2⟩ := locK_at h hi
          obtain ⟨j1, j2⟩ := locK_at h hj
          have hl : (swNames c.sc [.Name x px, .Name y py]).length = 2 := by
            unfold swYes at hy
            simp only [Bool.and_eq_true] at hy
            simpa using hy.1.1.1.2
          rw [swN2 (by rw [← h.xo.sc]; exact i2) (by rw [← h.xo.sc]; exact j2) hl] at w1
          exact ss_par2 h.xo.calm h.xo.nd i1 j1 hij i2 j2 (sUA s h tk _) w1
      · exact ss_stuck
    · split
      · rename_i hn; exact sAsgV s h tk (sw_no h hn)
      · exact ss_stuck
  · rename_i x px y py z pz a b d k2 p2
    split
    · rename_i hy
      obtain ⟨w1, w2⟩ := sw_yes (kt := kt) (pt := pt) (k2 := k2) (p2 := p2) h hy
      split
      · rename_i i j l hi hj hl
        split
        · exact ss_stuck
        · rename_i hij
          simp only [not_or] at hij
          obtain ⟨i1, i2⟩ := locK_at h hi
          obtain ⟨j1, j2⟩ := locK_at h hj
          obtain ⟨l1, l2⟩ := locK_at h hl
          have hl : (swNames c.sc [.Name x px, .Name y py, .Name z pz]).length = 3 := by
            unfold swYes at hy
            simp only [Bool.and_eq_true] at hy
            simpa using hy.1.1.1.2
          rw [swN3 (by rw [← h.xo.sc]; exact i2) (by rw [← h.xo.sc]; exact j2) (by rw [← h.xo.sc]; exact l2) hl] at w1
          exact ss_par3 h.xo.calm h.xo.nd i1 j1 l1 hij.1 hij.2.1 hij.2.2 i2 j2 l2 (sUA s h tk _) w1
      · exact ss_stuck
    · split
      · rename_i hn; exact sAsgV s h tk (sw_no h hn)
      · exact ss_stuck
  · split
    · rename_i hn
      simp only [Bool.and_eq_true] at hn
      split
      · rename_i i j hi hj
        exact ss_setTwo h.xo.calm h.K (slot_var h hi) (s.E Z W X c k h tk _) (slot_var h hj) (s.E Z W X c k h tk _) (s.E Z W X c k h tk _) (assign_eq hn.1.2) (assign_eq hn.2) (sole_tup rfl) (sw_no h hn.1.1)
      · exact ss_stuck
    · exact ss_stuck
  · split
    · rename_i hn; exact sAsgV s h tk (sw_no h hn)
    · exact ss_stuck
  · split
    · rename_i hn
      simp only [Bool.and_eq_true] at hn
      exact sAsgG s h tk hn.2 (noswap_eq hn.1)
    · exact ss_stuck
theorem CtxOk.trc (h : CtxOk Γ G X c k) (pn : List (Addr × Obj)) (xe : Value → Shared → Prop) : CtxOk Γ G (X.tr pn xe) c k where
  xo := ⟨h.xo.N, h.xo.sc, h.xo.nd, h.xo.calm, h.xo.K, h.xo.mg, h.xo.room, h.xo.guards⟩
  kind := h.kind
  sto := h.sto
  nodeb := h.nodeb
  tab := fun x gi hx => ⟨(h.tab x gi hx).db, (h.tab x gi hx).is⟩
  xm := h.xm
  lam := fun e => let ⟨r, l⟩ := h.lam e; ⟨r, ⟨l.ex⟩⟩
  top := h.top
theorem sTryS (s : Sound Γ G r) (h : CtxOk Γ G X c k) {bd : List Stmt} {h₀ : ExceptHandler} {hds : List ExceptHandler} : PS X (.Try bd (h₀ :: hds) [] [] pos) (tOfS G Z W (cTry Γ r c bd (h₀ :: hds))) := by
  unfold cTry
  split
  case isFalse => exact ss_stuck
  rename_i ht
  split
  case h_2 => exact ss_stuck
  rename_i n hn
  split
  case h_2 => exact ss_stuck
  rename_i i hi
  split
  case h_2 => exact ss_stuck
  rename_i l hl
  split
  case isFalse => exact ss_stuck
  rename_i hq
  simp only [Bool.and_eq_true] at hq
  obtain ⟨hq, hr⟩ := hq
  obtain ⟨t1, t2⟩ := h.top ht
  have hrp : G.mg "repr" = none := by
    unfold isRepr at hr
    split at hr
    · rename_i b hb
      exact (h.tab _ _ hb).is.2
    · cases hr
  have hma : ∀ q ∈ l, MaOk G q := fun q hq' => by
    have e := List.all_eq_true.mp hq q hq'
    obtain ⟨cn, m⟩ := q
    unfold excOk at e
    split at e
    · rename_i c' f hcf
      cases hcf
      split at e
      · rename_i f' hf
        have e := of_decide_eq_true e
        subst e
        obtain ⟨C, B, n1, n2, bmB, fI, cc, cda, T, m1, kC, sb, ty, hs, xf, hf⟩ := (h.tab _ _ hf).is
        exact ⟨C, m1, xf.1, xf.2⟩
      · cases e
    · cases e
  have hd : HdM i X.N c.sc (h₀ :: hds) l := by rw [h.xo.N]; exact hdM_ok _ _ hl
  have hfld : ∀ c f, fldF Γ c = some f → G.fld c = f := fun c f e => by
    unfold fldF at e
    split at e
    · rename_i f' hl
      subst e
      have := (h.tab _ _ hl).is
      exact let ⟨_, _, _, _, _, _, _, _, _, _, _, _, _, _, _, e⟩ := this; e
    · cases e
  refine ps_imp (ps_try_mix (Wo := fun _ _ _ _ => False) (l := l.map (clOf G i)) (tb := fun W => tOfS G Z W (cSs r c bd)) t1 t2 h.xo.nd takes_none5 (fun W pn xe tk' hp' => sSs s (h.trc pn xe) tk' hp' bd) (mix_of (sg := c.sc) h.xo.K h.xo.mg h.xo.sc h.xo.guards (by have := h.xo.room.un; omega) hrp hd hma)) fun D σ H ⟨S, env, o, q⟩ => ⟨S, env, o, ?_⟩
  unfold sTry at q
  cases ef : cSs r c bd env with
  | stuck => rw [ef] at q; exact q.elim
  | ok a e1 => rw [ef] at q; exact q
  | exc x e1 =>
    rw [ef] at q
    cases em : metOf (xmF Γ) (fldF Γ) l x with
    | none => simp only [em] at q; exact q.elim
    | some d =>
      simp only [em] at q
      split at q
      · rename_i hlt
        intro S' H' σ' cls dd t rx
        rw [h.xo.K]
        exact met_post t.ok rfl (by rw [t.ok.len]; exact hlt) h.xm hfld rx l em fun S2 H2 t2 v rv => q S2 H2 σ' (t.trans t2) v rv
      · exact q.elim
theorem sS (s : Sound Γ G r) (h : CtxOk Γ G X c k) (tk : Takes X W) (hp : PassesOwn (model X.prog X.w) X.A X.env X.xe) (st : Stmt) : PS X st (tOfS G Z W (cS Γ r c st)) := by
  unfold cS
  split
  · exact ss_pass
  · exact ss_break
  · exact ss_continue
  · exact ss_doc
  · rename_i x p m apos a cpos pos
    split
    · rename_i j hj
      split
      · rename_i hc
        simp only [Bool.and_eq_true] at hc
        split
        · rename_i hm
          simp only [sameS, decide_eq_true_eq] at hm
          subst hm
          exact ss_app (slot_var h hj) (s.E Z W X c k h tk a) h.K (star_eq hc.1) hc.2
        · split
          · rename_i hm
            simp only [sameS, decide_eq_true_eq] at hm
            subst hm
            exact ss_ext (slot_var h hj) (s.E Z W X c k h tk a) h.K (star_eq hc.1) hc.2
          · split
            · rename_i hm
              simp only [sameS, decide_eq_true_eq] at hm
              subst hm
              have hu := h.xo.room.un
              exact ss_rem h.K (by omega) (slot_var h hj) (s.E Z W X c k h tk a) (star_eq hc.1) hc.2
            · exact ss_stuck
      · exact ss_stuck
    · exact ss_stuck
  · split
    · rename_i hn; exact ss_expr (s.E Z W X c k h tk _) (swaps_eq hn)
    · exact ss_stuck
  · exact ss_retN
  · split
    · rename_i j hj; exact ss_retV (slotE_var h hj)
    · exact ss_retU (sU s h tk _)
  · exact ss_if (s.T Z W X c k h tk _) (sSs s h tk hp _) (sSs s h tk hp _)
  · exact ss_while hp (s.T Z W X c k h tk _) (sSs s h tk hp _)
  · rename_i tg iter b pos
    split
    · rename_i hn
      split
      · rename_i t ht
        exact ss_for hp h.xo.calm (sI s h tk tg iter) (sG h 8 tg t ht) (sSs s h tk hp _) (folded_eq hn)
      · exact ss_stuck
    · exact ss_stuck
  · exact sAsg1 s h tk _
  · exact sAsgT s h tk _
  · rename_i x p ix p1 pos
    split
    · rename_i j hj; exact ss_del (slot_var h hj) (s.E Z W X c k h tk ix)
    · exact ss_stuck
  · rename_i x p ix p1 e pos
    split
    · rename_i j hj
      split
      · rename_i hc
        simp only [Bool.and_eq_true] at hc
        exact ss_setIx (slot_var h hj) (s.E Z W X c k h tk ix) (s.E Z W X c k h tk e) (assign_eq hc.1.1) (sole_eq hc.1.2) (noswap_eq hc.2) (by rfl)
      · exact ss_stuck
    · exact ss_stuck
  · rename_i x p e cpos pos
    split
    · rename_i hg
      obtain ⟨g1, g2⟩ := glob_at h hg
      obtain ⟨C, B, n1, n2, bmB, F, q, m1, kC, sb, ty⟩ := g2.is
      split
      · exact ss_raise0 h.xo.calm tk F (by rw [h.xo.K]; exact q) (by rw [h.xo.mg]; exact m1) h.xo.mg (by rw [h.xo.K]; exact kC) (raises_own (by rw [h.xo.K]; exact sb) (by rw [h.xo.K]; exact ty)) g1 g2.db
      · exact ss_stuck
    · rename_i f hg
      obtain ⟨g1, g2⟩ := glob_at h hg
      obtain ⟨C, B, n1, n2, bmB, fI, cc, cda, T, m1, kC, sb, ty, hs, _, hf⟩ := g2.is
      split
      · rename_i hn
        exact ss_raise1 h.xo.calm tk (by rw [h.xo.K]; exact T) (by rw [h.xo.K]; exact kC) (raises_own (by rw [h.xo.K]; exact sb) (by rw [h.xo.K]; exact ty)) h.xo.room g1 (by rw [h.xo.mg]; exact m1) h.xo.mg hf (by rw [h.xo.mg]; exact hs) g2.db (s.E Z W X c k h tk e) (by rw [star_eq hn]; rfl)
      · exact ss_stuck
    · exact ss_stuck
  · rename_i y p op e pos
    split
    · rename_i i g hi hg
      obtain ⟨h1, h2, h3⟩ := stor_at h hi
      obtain ⟨rr, g1, g2⟩ := opI_ok (X := X) (G := G) hg
      exact ss_aug h.xo.nd h1 h2 (s.E Z W X c k h tk e) g1 g2 h3
    · exact ss_stuck
  · rename_i x p ix p1 op e pos
    split
    · rename_i j g hj hg
      split
      · rename_i hc
        obtain ⟨rr, g1, g2⟩ := opI_ok (X := X) (G := G) hg
        exact ss_augIx h.K (slot_var h hj) (s.E Z W X c k h tk ix) (s.E Z W X c k h tk e) g1 g2 (aug_eq hc)
      · exact ss_stuck
    · exact ss_stuck
  · exact sTryS s h
  · exact ss_stuck
/-- the meaning to a depth -/
def lev (Γ : Gm) : Nat → Cmp
  | 0 => ⟨fun _ _ => eStuck, fun _ _ => eStuck, fun _ _ => eStuck, fun _ _ => sStuck⟩
  | n + 1 => ⟨cE Γ (lev Γ n), cF Γ (lev Γ n), cT (lev Γ n), cS Γ (lev Γ n)⟩
theorem lev_ok (Γ : Gm) (G : Gx) : ∀ n, Sound Γ G (lev Γ n)
  | 0 => ⟨fun _ _ _ _ _ _ _ _ => se_stuck, fun _ _ _ _ _ _ _ _ => sf_stuck, fun _ _ _ _ _ _ _ _ => st_stuck, fun _ _ _ _ _ _ _ _ _ => ss_stuck⟩
  | n + 1 => ⟨fun _ _ _ _ _ h tk e => sE (lev_ok Γ G n) h tk e, fun _ _ _ _ _ h tk e => sF (lev_ok Γ G n) h tk e, fun _ _ _ _ _ h tk e => sT (lev_ok Γ G n) h tk e, fun _ _ _ _ _ h tk hp st => sS (lev_ok Γ G n) h tk hp st⟩
end
end PL

namespace PL
open PySem PySem.Spec PyProof.Rows L2

/-! ### a def's meaning -/
def outsOf : List SV → Env → Option (List SV)
  | [], _ => some []
  | .own _ _ :: r, .own true ys :: e => (outsOf r e).map (SV.own true ys :: ·)
  | .own _ _ :: _, _ => none
  | .val _ :: r, _ :: e => (outsOf r e).map (SV.none :: ·)
  | .none :: r, _ :: e => (outsOf r e).map (SV.none :: ·)
  | _ :: _, [] => none
def envOf (N : List Str) (svs : List SV) : Env := svs ++ List.replicate (N.length - svs.length) .none
def finF (svs : List SV) (r : R O) : FR := match r with
  | .ok (.ret sv) e => (match outsOf svs e with
    | some outs => .ok sv outs
    | none => .stuck)
  | .ok .next e => (match outsOf svs e with
    | some outs => .ok (.val .non) outs
    | none => .stuck)
  | .exc x e => (match outsOf svs e with
    | some outs => .exc x outs
    | none => .stuck)
  | _ => .stuck
def mkF (Γ : Gm) (n : Nat) (N : List Str) (sc : Scope) (lam : Bool) (body : List Stmt) : Fn := fun svs => finF svs (cSs (lev Γ n) ⟨N, sc, sc.names, lam, true⟩ body (envOf N svs))

section
variable {G : Gx} {Z : Zx} {W : WX} {S S' : Pr} {H H' : Hp} {env env' : Env} {σ σ' : L2.St} {svs outs : List SV} {vs : List V}
theorem outs_at : ∀ {svs : List SV} {e : Env} {outs : List SV} {i : Nat} {io : Bool} {xs : List D}, outsOf svs e = some outs → svs[i]? = some (.own io xs) → ∃ ys, outs[i]? = some (.own true ys) ∧ e[i]? = some (.own true ys)
  | [], _, _, _, _, _, _, h => by simp at h
  | s :: r, e, outs, i, io, xs, h, hi => by
    cases e with
    | nil => cases s <;> simp [outsOf] at h
    | cons t e =>
      cases i with
      | zero =>
        have hs : s = .own io xs := by simpa using hi
        subst hs
        cases t with
        | own b ys =>
          cases b with
          | true =>
            simp only [outsOf] at h
            cases q : outsOf r e with
            | none => rw [q] at h; cases h
            | some o => rw [q] at h; cases h; exact ⟨ys, rfl, rfl⟩
          | false => simp [outsOf] at h
        | none => simp [outsOf] at h
        | val d => simp [outsOf] at h
      | succ i =>
        have hr : r[i]? = some (.own io xs) := by simpa using hi
        have step : ∀ z, (outsOf r e).map (z :: ·) = some outs → ∃ ys, outs[i + 1]? = some (.own true ys) ∧ (t :: e)[i + 1]? = some (.own true ys) := fun z hz => by
          cases q : outsOf r e with
          | none => rw [q] at hz; cases hz
          | some o =>
            rw [q] at hz; cases hz
            obtain ⟨ys, h1, h2⟩ := outs_at q hr
            exact ⟨ys, by simpa using h1, by simpa using h2⟩
        cases s with
        | none => simp only [outsOf] at h; exact step _ h
        | val d => simp only [outsOf] at h; exact step _ h
        | own b zs =>
          cases t with
          | own b ys =>
            cases b with
            | true => simp only [outsOf] at h; exact step _ h
            | false => simp [outsOf] at h
          | none => simp [outsOf] at h
          | val d => simp [outsOf] at h
theorem env_at {N : List Str} {i : Nat} {s : SV} (h : (envOf N svs)[i]? = some s) (hn : s ≠ .none) : svs[i]? = some s := by
  unfold envOf at h
  by_cases hi : i < svs.length
  · rw [List.getElem?_append_left hi] at h; exact h
  · rw [List.getElem?_append_right (by omega), List.getElem?_replicate] at h
    split at h
    · cases h; exact absurd rfl hn
    · cases h
theorem start_at {N : List Str} {i : Nat} {v : V} (h : (L2.start N vs)[i]? = some (some v)) : (vs.map some)[i]? = some (some v) := by
  unfold L2.start at h
  by_cases hi : i < (vs.map some).length
  · rw [List.getElem?_append_left hi] at h; exact h
  · rw [List.getElem?_append_right (by omega), List.getElem?_replicate] at h
    split at h <;> cases h
theorem at_start {N : List Str} {i : Nat} {v : V} (h : (vs.map some)[i]? = some (some v)) : (L2.start N vs)[i]? = some (some v) := by
  unfold L2.start
  have hi : i < (vs.map some).length := (List.getElem?_eq_some_iff.mp h).1
  rw [List.getElem?_append_left hi]; exact h
/-- a body's first state -/
theorem Ok.start {N : List Str} (o : Ok G Z S H svs (vs.map some)) : Ok G Z S H (envOf N svs) (L2.start N vs) := by
  have hl : vs.length = svs.length := by have := o.len; simpa using this
  refine ⟨o.tb, o.nt, o.tr, o.old, ?_, fun i d e => ?_, fun i io xs e => ?_, fun i j io xs io' ys a e1 e2 h1 h2 => ?_, fun i xs a e h => ?_, fun i xs a e h => ?_⟩
  · unfold envOf L2.start
    simp [hl]
  · obtain ⟨v, h1, h2⟩ := o.val i d (env_at e (by simp))
    exact ⟨v, at_start h1, h2⟩
  · obtain ⟨a, ws, h1, h2⟩ := o.own i io xs (env_at e (by simp))
    exact ⟨a, ws, at_start h1, h2⟩
  · exact o.inj i j io xs io' ys a (env_at e1 (by simp)) (env_at e2 (by simp)) (start_at h1) (start_at h2)
  · exact o.io i xs a (env_at e (by simp)) (start_at h)
  · exact o.fr i xs a (env_at e (by simp)) (start_at h)
theorem own_start {N : List Str} {a : Addr} (h : Own (envOf N svs) (L2.start N vs) a) : Own svs (vs.map some) a := by
  obtain ⟨i, io, xs, h1, h2⟩ := h
  exact ⟨i, io, xs, env_at h1 (by simp), start_at h2⟩
theorem ftr_of {N : List Str} (o : Ok G (zOf svs vs H) S H svs (vs.map some)) (t : Tr G (zOf svs vs H) S H (envOf N svs) (L2.start N vs) S' H' env' σ') (e : outsOf svs env' = some outs) : FTr G S H svs vs S' H' outs := by
  have key : ∀ (i : Nat) (io : Bool) (xs : List D), svs[i]? = some (.own io xs) → ∃ (ys : List D) (a : Addr) (ws : List V), outs[i]? = some (.own true ys) ∧ vs[i]? = some (.ref a) ∧ H' a = some (.lst ws) ∧ ¬ S' a ∧ RpL G S' H' ys ws := fun i io xs h => by
    obtain ⟨ys, h1, h2⟩ := outs_at e h
    obtain ⟨a, ws, g1, g2, g3, g4⟩ := t.ok.own i true ys h2
    have hp := t.ok.io i ys a h2 g1
    obtain ⟨b, us, f1, f2, f3, f4⟩ := o.own i io xs h
    have hv : vs[i]? = some (.ref b) := by
      rw [List.getElem?_map] at f1
      cases q : vs[i]? with
      | none => rw [q] at f1; cases f1
      | some v => rw [q] at f1; cases f1; rfl
    have hp' : (match svs[i]?, vs[i]? with | some (SV.own _ _), some (V.ref a) => some a | _, _ => none) = some a := hp
    rw [h, hv] at hp'
    cases hp'
    exact ⟨ys, _, ws, h1, hv, g2, g3, g4⟩
  refine ⟨t.ok.tb, t.ok.nt, ⟨fun a ob q n => t.ext.keep a ob q (fun z => n (own_start z)), t.ext.there, t.ext.sub, fun a z => ?_⟩, fun a z => ?_, t.ok.tr, key⟩
  · rcases t.ext.new a z with y | y | y
    · exact .inl y
    · exact .inr (.inl y)
    · exact .inr (.inr (own_start y))
  · rcases t.ext.new a z with y | y | y
    · exact .inl y
    · exact .inr y
    · obtain ⟨i, io, xs, h1, h2⟩ := own_start y
      obtain ⟨ys, b, ws, k1, k2, k3, k4, _⟩ := key i io xs h1
      rw [List.getElem?_map, k2] at h2
      cases h2
      exact absurd z k4
/-- a body's reading from its def's promise -/
theorem body_of {N : List Str} {f : M O} {np : Nat} {F : Fn} {Q : VK} {E : XK} (hF : ∀ svs, F svs = finF svs (f (envOf N svs))) (h : spOf G np F vs H Q E) :
    ∃ Z, tOfS G Z (fun cls d _ H => E cls d H) f { nx := fun _ H' => Q .non H', rt := Q } (L2.start N vs) H := by
  obtain ⟨S, svs, hl, o, hio, post⟩ := h
  refine ⟨zOf svs vs H, S, envOf N svs, o.start, ?_⟩
  rw [hF] at post
  cases e : f (envOf N svs) with
  | stuck => rw [e] at post; exact post.elim
  | exc x e1 =>
    rw [e] at post
    intro S' H' σ' cls dd t rx
    cases q : outsOf svs e1 with
    | none => simp only [finF, q] at post; exact post.elim
    | some outs =>
      simp only [finF, q] at post
      exact post S' H' cls dd (ftr_of o t q) rx
  | ok oo e1 =>
    rw [e] at post
    intro S' H' σ' t
    cases oo with
    | next =>
      cases q : outsOf svs e1 with
      | none => simp only [finF, q] at post; exact post.elim
      | some outs =>
        simp only [finF, q] at post
        exact post S' H' .non (ftr_of o t q) .non
    | brk => exact post.elim
    | cnt => exact post.elim
    | ret sv =>
      cases q : outsOf svs e1 with
      | none => simp only [finF, q] at post; exact post.elim
      | some outs =>
        simp only [finF, q] at post
        exact fun v rr => post S' H' v (ftr_of o t q) rr
end

/-! ### the table of defs -/
def TabOk (P : Program) (w : World) (G : Gx) (base : Heap) (k : Nat) (Γ : Gm) : Prop := ∀ X : Cx, X.prog = P → X.w = w → X.base = base → ∀ x gi, Γ.tab.lookup x = some gi → GOk G X k x gi
theorem TabOk.mono {P : Program} {w : World} {G : Gx} {base : Heap} {j k : Nat} {Γ : Gm} (t : TabOk P w G base j Γ) (h : j ≤ k) : TabOk P w G base k Γ := fun X h1 h2 h3 x gi e => by
  have g := t X h1 h2 h3 x gi e
  refine ⟨g.db, ?_⟩
  cases gi with
  | fn np io F =>
    obtain ⟨f, fd, ps, m1, m2, m3, m4⟩ := g.is.ex
    exact ⟨⟨f, fd, ps, m1, m2, m3, m4.mono h⟩⟩
  | cst d => exact g.is
  | blt b => exact g.is
  | exc f => cases f <;> exact g.is
  | met l fine => exact g.is
def okNames (N : List Str) : Bool := N.all fun x => !(x == ("__debug__" : Str)) && !(x == ("__classdict__" : Str))
/-- the code object of a def that makes lambdas has its table -/
def LamF (G : Gx) (base : Heap) (f : Addr) (fd : FuncData) (qual : Str) : Prop := ∀ oc od osl c, G.K.lookup f = some ⟨oc, od, .func fd, osl⟩ → fd.code = .ref c →
  ∃ P, LamX.TabB base G.mg c P ∧ (P, qual ++ ".<locals>." ++ "<lambda>") ∈ G.T ∧ ∀ p ∈ G.T, p.1 = P → p.2 = qual ++ ".<locals>." ++ "<lambda>"
theorem fnG_of {P : Program} {w : World} {G : Gx} {base : Heap} {k j n : Nat} {Γ : Gm} {x qual : Str} {params : Arguments} {body : List Stmt} {scope : Scope} {kws : List (Str × V)} {f : Addr} {fd : FuncData} {N ps : List Str} {lam : Bool}
    (F : FunD G.K x qual params body scope [] kws f fd) (S : FnScope N ps scope) (hN : okNames N = true) (t : TabOk P w G base k Γ) (xk : XmOk G Γ) (hj : k ≤ j) (hlam : lam = true → k + 2 ≤ j ∧ LamF G base f fd qual) : FnG P w G.K G.mg base (j + 1) f fd ps (spOf G ps.length (mkF Γ n N scope lam body)) := by
  refine ⟨fun vs H Q E ⟨_, _, hl, _⟩ => hl, fun A outer s H args us vs Q E hr hg e0 hb r hsp => ?_⟩
  obtain ⟨oc, od, dV, kV, doc, pm, an, cdv, ct, osl, rfl, lk, hcd, _, _⟩ := F.ex
  have hl : vs.length = ps.length := by
    obtain ⟨_, _, hl, _⟩ := hsp
    exact hl
  refine LamX.run_ofS lk hcd S hr e0 hb r hl fun hr' => ?_
  obtain ⟨Z, hq⟩ := body_of (F := mkF Γ n N scope lam body) (f := cSs (lev Γ n) ⟨N, scope, scope.names, lam, true⟩ body) (fun _ => rfl) hsp
  refine ⟨_, ?_, hq⟩
  have ck : CtxOk Γ G (cxOf (L2.CX P w) P w G.K G.mg base N qual scope f cdv A outer s H E) ⟨N, scope, scope.names, lam, true⟩ k :=
    { xo := ⟨rfl, rfl, S.nd, rfl, rfl, rfl, hr'.mono hj, hg⟩
      kind := S.kind
      sto := fun y hy => ⟨by
        have hy : stoK (scope.names.lookup y) = true := hy
        unfold stoK at hy
        split at hy <;> try contradiction
        · rename_i e; exact .inl e
        · rename_i e; exact .inr e, .inl rfl⟩
      nodeb := fun y hy => by
        have := List.all_eq_true.mp hN y hy
        simpa using this
      tab := t _ rfl rfl rfl
      xm := xk
      lam := fun z => by
        obtain ⟨h1, h2⟩ := hlam z
        obtain ⟨c, hc⟩ := He.codeIn_ref hcd
        subst hc
        obtain ⟨P', g1, g2, g3⟩ := h2 _ _ _ _ lk rfl
        exact ⟨hr'.mono h1, ⟨c, P', g1, rfl, g2, g3⟩⟩
      top := fun _ => ⟨rfl, rfl⟩ }
  exact sSs (lev_ok Γ G n) ck (takes_of rfl rfl rfl rfl) (passes_of rfl) body
/-- one def more -/
theorem tab_step {P : Program} {w : World} {G : Gx} {base : Heap} {k j n : Nat} {Γ Δ : Gm} {x qual : Str} {params : Arguments} {body : List Stmt} {scope : Scope} {f : Addr} {fd : FuncData} {N ps : List Str} {io : List Bool} {lam : Bool}
    (t : TabOk P w G base k Γ) (xk : XmOk G Γ) (F : FunD G.K x qual params body scope [] [] f fd) (gl : G.mg x = some (.ref f)) (S : FnScope N ps scope) (hN : okNames N = true) (hd : (x == ("__debug__" : Str)) = false)
    (hb : ∀ (kV doc pm : Value) (an : Option Addr) (cdv ct : Value) (us : List Value), us.length = ps.length → bindArgs (PySem.W.fnOf x qual params body scope .none kV doc pm an cdv ct) ⟨us, []⟩ = pure (ps.zip us))
    (hj : k ≤ j) (hlam : lam = true → k + 2 ≤ j ∧ LamF G base f fd qual) (hΔ : Δ.tab = (x, .fn ps.length io (mkF Γ n N scope lam body)) :: Γ.tab) : TabOk P w G base (j + 1) Δ := fun X h1 h2 h3 y gi e => by
  rw [hΔ, List.lookup_cons] at e
  split at e
  · rename_i hy
    cases e
    have hy : y = x := by simpa using hy
    subst hy
    refine ⟨hd, ⟨⟨f, fd, ps, gl, F.kp, F.bindsN hb, ?_⟩⟩⟩
    rw [h1, h2, h3]
    exact fnG_of F S hN t xk hj hlam
  · exact (t.mono (Nat.le_succ_of_le hj)) X h1 h2 h3 y gi e
/-- the law's own word for an error, one more name -/
theorem tab_met {P : Program} {w : World} {G : Gx} {base : Heap} {k : Nat} {Γ Δ : Gm} {x fine : Str} {l : List (Str × MA)} (t : TabOk P w G base k Γ) (m : MetOk G x l fine) (hd : (x == ("__debug__" : Str)) = false) (hΔ : Δ.tab = (x, .met l fine) :: Γ.tab) : TabOk P w G base k Δ := fun X h1 h2 h3 y gi e => by
  rw [hΔ, List.lookup_cons] at e
  split at e
  · rename_i hy
    cases e
    have hy : y = x := by simpa using hy
    subst hy
    exact ⟨hd, m⟩
  · exact t X h1 h2 h3 y gi e

/-! ### the law -/
theorem guards0 : callerA.guards = some [] := by rfl
theorem start_law {G : Gx} {H : Hp} {a : Addr} {ns : List Int} {F : Fn} {outs : List SV} (tb : LamX.Tabs G.T H) (na : ∀ ps, H a ≠ some (.tbl ps)) (hS : SqL G.K H a (ns.map V.int)) (hF : F [.val (.rol (ns.map D.int))] = .ok (.val (.bl true)) outs) :
    spOf G 1 F [.ref a] H (fun v _ => v = .bl true) fun _ _ _ => False := by
  have rr : RpL G (fun b => b = a ∧ H a ≠ none) H (ns.map D.int) (ns.map V.int) := rpl_ints ns
  have ha : (fun b => b = a ∧ H a ≠ none) a ∨ WrL G.K a (ns.map V.int) := by
    rcases hS with (h | ⟨o, h⟩) | h
    · exact .inl ⟨rfl, by rw [h]; simp⟩
    · exact .inl ⟨rfl, by rw [h]; simp⟩
    · exact .inr h
  refine ⟨fun b => b = a ∧ H a ≠ none, [.val (.rol (ns.map D.int))], rfl, ⟨tb, fun b z ps => by obtain ⟨z1, z2⟩ := z; rw [z1]; exact na ps, fun b z => by obtain ⟨z1, z2⟩ := z; rw [z1]; exact z2, fun _ z => z, rfl, fun i d e => ?_, fun i io xs e => ?_, fun i j io xs io' ys b e => ?_, fun i xs b e => ?_, fun i xs b e => ?_⟩, fun i io xs e => ?_, ?_⟩
  · cases i with
    | zero => simp at e; subst e; exact ⟨_, rfl, .rol ha hS rr⟩
    | succ i => simp at e
  · cases i <;> simp at e
  · cases i <;> simp at e
  · cases i <;> simp at e
  · cases i <;> simp at e
  · cases i <;> simp at e
  · rw [hF]
    intro S' H' v t rv
    cases rv
    rfl
/-- the module's own list of built-in names -/
def MainB (mg : Str → Option Value) (h : Heap) : Prop := ∃ (bm : Addr) (ob : Obj), mg "__builtins__" = some (.ref bm) ∧ bm ≠ builtinsNs ∧ h.get? bm = some ob ∧ ob.cls = .type "module" ∧ ob.dict = some builtinsNs ∧ ob.data = .plain
/-- the head, for a def whose promise may use that nothing is being shown; cs: code objects and their tables -/
theorem head_call {P : Program} {w : World} {K : PySem.W.Frag} {mg mb : Str → Option Value} {k : Nat} {fL aL : Addr} {cs : List (Addr × Addr)} {fd : FuncData} {x : Str} {sp : Sp} {s0 : Shared} {us : List Value} {ns : List Int}
    (kx : K.In s0.heap) (n1 : s0.heap.Ns mainGlobals mg) (n2 : s0.heap.Ns builtinsNs mb) (n3 : ∀ y : Str, y ≠ "__name__" → mb y = bootBuiltins y) (n4 : s0.heap.NoLimit) (n5 : s0.gens = #[])
    (t1 : ∀ p ∈ cs, s0.heap.get? p.2 = some { cls := .none, data := .fields #[] }) (t2 : ∀ p ∈ cs, K.lookup p.2 = none) (t3 : ∀ p ∈ cs, PySem.W.CodeHd s0.heap p.1 p.2) (t4 : MainB mg s0.heap)
    (oL : s0.heap.get? aL = some { cls := .type "list", data := .seq us.toArray }) (iL : IntsAre us ns) (zL : ns.length ≤ sizeLine) (rm : Room k callerA)
    (F : ∀ base : Heap, K.In base → base.Ns mainGlobals mg → (∀ p ∈ cs, LamX.TabB base mg p.1 p.2) → FnG P w K mg base k fL fd [x] sp) (bi : ∀ (s : Shared) (u : Value), BindsTo s fd ⟨[u], []⟩ [(x, u)])
    (hsp : ∀ H : Hp, (∀ p ∈ cs, H p.2 = some (.tbl #[])) → (∀ ps, H aL ≠ some (.tbl ps)) → SqL K H aL (ns.map V.int) → sp [.ref aL] H (fun v _ => v = .bl true) fun _ _ _ => False) :
    codeAny (model P w) callerA (.call (.ref fL) ⟨[.ref aL], []⟩) (fun r t => r = .ok (.ret (.bool true)) ∧ OldK s0.heap t.heap ∧ t.os = s0.os ∧ AllBare t.gens) s0 := by
  have onT : ∀ b : Addr, b ∈ cs.map (·.2) → s0.heap.get? b = some { cls := .none, data := .fields #[] } := fun b hb => by
    obtain ⟨p, hp, rfl⟩ := List.mem_map.mp hb
    exact t1 p hp
  have inT : ∀ p ∈ cs, p.2 ∈ cs.map (·.2) := fun p hp => List.mem_map_of_mem hp
  have aOut : aL ∉ cs.map (·.2) := fun z => by
    have e := onT aL z
    rw [oL] at e
    cases congrArg Obj.data (Option.some.inj e)
  have main : ∀ T : Hp, (∀ p ∈ cs, T p.2 = some (.tbl #[])) → (∀ b, T b = none ∨ b ∈ cs.map (·.2) ∨ ∃ ob xs, T b = some (.frz ob (.lst xs))) → SqL K T aL (ns.map V.int) → HOk P w T s0.heap → (∀ b, T b ≠ none → b = aL ∨ b ∈ cs.map (·.2)) → (T aL ≠ none → K.lookup aL = none) → (∀ ps, T aL ≠ some (.tbl ps)) →
      codeAny (model P w) callerA (.call (.ref fL) ⟨[.ref aL], []⟩) (fun r t => r = .ok (.ret (.bool true)) ∧ OldK s0.heap t.heap ∧ t.os = s0.os ∧ AllBare t.gens) s0 := by
    intro T tbs only sq okT oneT outK nta
    have far : ∀ {b : Addr} {o : Obj}, s0.heap.get? b = some o → (∀ vs n, o.data ≠ .seq vs n) → o.data ≠ .fields #[] → T b = none := fun {b o} e h1 h2 => by
      cases q : T b with
      | none => rfl
      | some u =>
        rcases oneT b (by rw [q]; simp) with z | z
        · rw [z, oL] at e
          cases e
          exact absurd rfl (h1 us.toArray _)
        · rw [onT b z] at e
          cases e
          exact absurd rfl h2
    have dic : ∀ {b : Addr} {o : Obj} {es : Array DictEntry} {ep : Nat}, s0.heap.get? b = some o → o.data = .dict es ep → T b = none := fun {b o es ep} e d => far e (fun vs n z => by rw [d] at z; cases z) fun z => by rw [d] at z; cases z
    have nsT : ∀ {b : Addr} {m : Str → Option Value}, s0.heap.Ns b m → (hidT s0.heap T).Ns b m := fun {b m} ⟨o, es, ep, e, d, r⟩ => ⟨o, es, ep, hidT_get e (dic e d), d, r⟩
    have kT : K.In (hidT s0.heap T) := fun b o e => hidT_get (kx b o e) (by
      cases q : T b with
      | none => rfl
      | some u =>
        rcases oneT b (by rw [q]; simp) with z | z
        · rw [z] at e q
          rw [outK (by rw [q]; simp)] at e; cases e
        · obtain ⟨p, hp, z⟩ := List.mem_map.mp z
          rw [← z, t2 p hp] at e; cases e)
    have md : Mod K mg (hidT s0.heap T) := by
      obtain ⟨mc, c1, c2⟩ := n4
      exact ⟨kT, nsT n1, ⟨mb, nsT n2, n3⟩, ⟨mc, nsT c1, c2⟩⟩
    have tabs : ∀ p ∈ cs, LamX.TabB (hidT s0.heap T) mg p.1 p.2 := fun p hp => by
      have e0 := t1 p hp
      refine ⟨?_, ?_, fun z => ?_⟩
      · obtain ⟨o, ws, file, tf, flags, tg, inF, text, tt, e1, r1, r2, r3, r4⟩ := t3 p hp
        exact ⟨o, ws, file, tf, flags, tg, inF, text, tt, hidT_get e1 (far e1 (fun vs n z => by rw [r2] at z; cases z) fun z => by rw [r2] at z; cases z; simp at r3), r1, r2, r3, r4⟩
      · obtain ⟨bm, ob, b1, b2, b3, b4, b5, b6⟩ := t4
        refine ⟨bm, ob, b1, b2, fun q => ?_, fun q => ?_, hidT_get b3 (far b3 (fun vs n z => by rw [b6] at z; cases z) fun z => by rw [b6] at z; cases z), b4, b5, b6⟩
        · obtain ⟨o, es, ep, e, hd, _⟩ := n1
          rw [q, e] at b3; cases b3
          rw [hd] at b6; cases b6
        · rw [q, e0] at b3; cases b3; cases b6
      · obtain ⟨o, es, ep, e, hd, _⟩ := n1
        rw [z, e0] at e; cases e; cases hd
    have en : Env0 P w K mg (hidT s0.heap T) callerA [] s0 T := ⟨rfl, md, fun b o e => of_hidT e, Nat.le_of_eq (hidT_size _ _), trivial, (fun b hb => by cases hb), okT, .of_eq n5⟩
    refine codeAny_mono ((F _ kT (nsT n1) tabs).run callerA [] s0 T ⟨[.ref aL], []⟩ [.ref aL] [.ref aL] _ _ rm guards0 en (bi s0 (.ref aL)) (.cons rfl .nil) (hsp T tbs nta sq)) fun r t z => ?_
    match r, z with
    | .error e, z =>
      obtain ⟨_, _, _, _, _, _, _, _, _, _, _, _, no⟩ := z
      exact no.elim
    | .ok .next, z => exact False.elim z
    | .ok .brk, z => exact False.elim z
    | .ok .cont, z => exact False.elim z
    | .ok (.ret u), z =>
      obtain ⟨v, T', os, bare, un, okT', rv, q⟩ := z
      have q : v = .bl true := q
      rw [q] at rv
      have rv : u = Value.bool true := rv
      have stay : ∀ b o, b ∉ cs.map (·.2) → s0.heap.get? b = some o → t.heap.get? b = some o := fun b o nb e => by
        cases q : T b with
        | none => exact un.keep b o e q (fun z => by cases z) (fun z => by cases z)
        | some u' =>
          rcases only b with z | z | ⟨ob, xs, z⟩
          · rw [q] at z; cases z
          · exact absurd z nb
          · obtain ⟨e1, _⟩ := okT b _ z
            obtain ⟨e2, _⟩ := okT' b _ (un.frzs b ob _ z)
            rw [e] at e1; cases e1
            exact e2
      have more : ∀ p ∈ cs, ∃ vs : Array Value, t.heap.get? p.2 = some { cls := .none, data := .fields vs } := fun p hp => let ⟨m, z⟩ := un.tbls p.2 #[] (tbs p hp); ⟨_, okT' p.2 _ z⟩
      refine ⟨by rw [rv], ⟨fun b o e => ?_, fun b o e => ?_⟩, os, bare⟩
      · by_cases hb : b ∈ cs.map (·.2)
        · obtain ⟨p, hp, rfl⟩ := List.mem_map.mp hb
          obtain ⟨vs, hm⟩ := more p hp
          rw [t1 p hp] at e; cases e
          exact .inr (.inl ⟨((t3 p hp).tab (t1 p hp)).isCodeTable, rfl, #[], vs, rfl, by rw [Array.empty_append]; exact hm⟩)
        · exact .inl (stay b o hb e)
      · by_cases hb : b ∈ cs.map (·.2)
        · obtain ⟨p, hp, rfl⟩ := List.mem_map.mp hb
          obtain ⟨vs, hm⟩ := more p hp
          exact ⟨_, hm⟩
        · exact ⟨o, stay b o hb e⟩
  have rv := vals_ints iL
  cases hk : K.lookup aL with
  | some o =>
    have e := kx aL o hk
    rw [oL] at e
    cases e
    refine main (fun b => if b ∈ cs.map (·.2) then some (.tbl #[]) else none) (fun p hp => if_pos (inT p hp)) (fun b => ?_) (.inr ⟨_, us.toArray, _, hk, rfl, rfl, rfl, by rw [List.size_toArray, iL.length]; exact zL, by simpa using rv⟩) (fun b u z => ?_) (fun b z => ?_) (fun z => absurd (if_neg aOut) z) fun ps z => ?_
    · by_cases hb : b ∈ cs.map (·.2)
      · exact .inr (.inl hb)
      · exact .inl (if_neg hb)
    · by_cases hb : b ∈ cs.map (·.2)
      · cases (if_pos hb).symm.trans z; exact onT b hb
      · cases (if_neg hb).symm.trans z
    · by_cases hb : b ∈ cs.map (·.2)
      · exact .inr hb
      · exact absurd (if_neg hb) z
    · cases (if_neg aOut).symm.trans z
  | none =>
    have ea : ∀ {ob : HO} {f : Hp}, (if aL = aL then some ob else f aL) = some ob := fun {ob f} => if_pos rfl
    refine main (fun b => if b = aL then some (.frz { cls := .type "list", data := .seq us.toArray } (.lst (ns.map V.int))) else if b ∈ cs.map (·.2) then some (.tbl #[]) else none) (fun p hp => ?_) (fun b => ?_) (.inl (.inr ⟨_, if_pos rfl⟩)) (fun b u z => ?_) (fun b z => ?_) (fun _ => hk) fun ps z => ?_
    · exact (if_neg (show ¬ p.2 = aL from fun z => aOut (by rw [← z]; exact inT p hp))).trans (if_pos (inT p hp))
    · by_cases h1 : b = aL
      · exact .inr (.inr ⟨_, _, if_pos h1⟩)
      · by_cases hb : b ∈ cs.map (·.2)
        · exact .inr (.inl hb)
        · exact .inl ((if_neg h1).trans (if_neg hb))
    · by_cases h1 : b = aL
      · cases (if_pos h1).symm.trans z
        rw [h1]
        exact ⟨oL, by rw [List.length_map]; exact zL, us, _, rv, oL⟩
      · have z := (if_neg h1).symm.trans z
        by_cases hb : b ∈ cs.map (·.2)
        · cases (if_pos hb).symm.trans z; exact onT b hb
        · cases (if_neg hb).symm.trans z
    · by_cases h1 : b = aL
      · exact .inl h1
      · by_cases hb : b ∈ cs.map (·.2)
        · exact .inr hb
        · exact absurd ((if_neg h1).trans (if_neg hb)) z
    · cases (if_pos rfl).symm.trans z
/-- what is left of a law: its meaning at every script -/
theorem walk_law {l : PySem.W.OpenLaw} {n k : Nat} {q : Program} {loose : List Str} {XP : (Str → Option Value) → Heap → Prop} {YP : World → Heap → Prop} {d : DefRec} {x : Str}
    (m1 : l.most = some n) (m2 : n ≤ sizeLine) (m3 : d.params.defaults = []) (rm : Room k callerA)
    (F : ∀ (w : World) (mg : Str → Option Value) (fL : Addr) (h : Heap), YP w h → h.Ns mainGlobals mg → mg d.name = some (.ref fL) →
      ∃ (G : Gx) (fd : FuncData) (sem : Fn), G.mg = mg ∧ G.K.In h ∧ (∀ p ∈ G.cs, h.get? p.2 = some { cls := .none, data := .fields #[] }) ∧ (∀ p ∈ G.cs, G.K.lookup p.2 = none) ∧ (∀ p ∈ G.cs, PySem.W.CodeHd h p.1 p.2) ∧ (∀ p ∈ G.T, ∃ c, (c, p.1) ∈ G.cs) ∧
        (∀ (s : Shared) (u : Value), BindsTo s fd ⟨[u], []⟩ [(x, u)]) ∧ (∀ ns : List Int, ns.length ≤ n → ∃ outs, sem [.val (.rol (ns.map D.int))] = .ok (.val (.bl true)) outs) ∧
        ∀ base : Heap, G.K.In base → base.Ns mainGlobals mg → (∀ p ∈ G.cs, LamX.TabB base mg p.1 p.2) → FnG l.prog w G.K mg base k fL fd [x] (spOf G 1 sem)) :
    PySem.W.WalkO q loose XP YP l.row.toRowW d [] (fun f vs => PySem.call f vs) := by
  refine Att.attach_call m1 m3 fun w s₀ t₁ mg mb fL o pm cd doc aL us ns Gd Y _ _ _ hm oL iL zL g0 => ?_
  obtain ⟨G, fd, sem, e1, kx, u1, u2, u3, u4, bi, sm, hF⟩ := F w mg fL _ Y Gd.T.g hm
  refine head_call kx Gd.T.g Gd.T.b Gd.T.builtins Gd.T.nolimit g0 u1 u2 u3 Gd.T.bmain oL iL (Nat.le_trans zL m2) rm hF bi fun H tbs na sq => ?_
  obtain ⟨outs, ho⟩ := sm ns zL
  exact start_law (fun p hp => by
    obtain ⟨c, hc⟩ := u4 p hp
    exact LamX.TabS.nil (tbs _ hc)) na sq ho

/-! ### what the head's run tells -/
/-- the facts of K, a Bool of it, the tables of the defs that make lambdas: empty, not in K -/
structure SaysY (fa : List He.Fa) (fn : List He.DefD) (tf : List He.Defn) (ex : PySem.W.Frag → Bool) (h : Heap) (K : PySem.W.Frag) : Prop where
  d : He.SaysD fa fn K
  more : ex K = true
  hd : ∀ p ∈ tf, PySem.W.codeHdIn K (He.cT K p).1 (He.cT K p).2 = true
  out : ∀ p ∈ tf, K.lookup (He.cT K p).2 = none
  empty : ∀ p ∈ tf, h.get? (He.cT K p).2 = some { cls := .none, data := .fields #[] }
def kY (n : List Addr) (g : Addr → Option Obj) : PySem.W.Frag := He.frT g n
abbrev AlY : Type := He.AlD × Bool
def obsY (n : List Addr) (fa : List He.Fa) (fn : List He.DefD) (tf : List He.Defn) (ex : PySem.W.Frag → Bool) (g : Addr → Option Obj) : AlY := (He.obsD fa fn (kY n g), ex (kY n g) && He.tabsB g tf (kY n g))
theorem saysY_of {n : List Addr} {fa : List He.Fa} {fn : List He.DefD} {tf : List He.Defn} {ex : PySem.W.Frag → Bool} {h : Heap} (e : obsY n fa fn tf ex h.get? = (He.valD fn, true)) : SaysY fa fn tf ex h (kY n h.get?) := by
  obtain ⟨m, tb⟩ := He.ba (congrArg (fun z : AlY => z.2) e : (ex (kY n h.get?) && He.tabsB h.get? tf (kY n h.get?)) = true)
  have one : ∀ p ∈ tf, PySem.W.codeHdIn (kY n h.get?) (He.cT (kY n h.get?) p).1 (He.cT (kY n h.get?) p).2 = true ∧ ∃ o, h.get? (He.cT (kY n h.get?) p).2 = some o ∧ He.emptyTab o = true := fun p hp => by
    obtain ⟨a, b⟩ := He.ba (List.all_eq_true.mp tb p hp)
    refine ⟨a, ?_⟩
    split at b
    · rename_i o q; exact ⟨o, q, b⟩
    · cases b
  exact ⟨congrArg (fun z : AlY => z.1) e, m, fun p hp => (one p hp).1, fun p hp => let ⟨_, o, q, z⟩ := one p hp; He.frT_none q z, fun p hp => let ⟨_, o, q, z⟩ := one p hp; by rw [q, He.emptyTab_eq z]⟩
def hookY (n : List Addr) (fa : List He.Fa) (fn : List He.DefD) (tf : List He.Defn) (ex : PySem.W.Frag → Bool) : PySem.W.Hook where
  α := AlY
  obs := fun s => obsY n fa fn tf ex s.heap.get?
  val := fun _ => (He.valD fn, true)
  says := fun _ h => ∃ K : PySem.W.Frag, K.In h ∧ SaysY fa fn tf ex h K
  of := fun _ _ e => ⟨_, He.frT_in, saysY_of e⟩
  keeps := fun _ _ _ ⟨K, hK, c⟩ k => ⟨K, PySem.W.Frag.In.keeps hK k, c.d, c.more, c.hd, c.out, fun p hp => k _ _ (c.empty p hp)⟩
theorem obsY_eq {n : List Addr} {fa : List He.Fa} {fn : List He.DefD} {tf : List He.Defn} {ex : PySem.W.Frag → Bool} {g : Addr → Option Obj} {s : Shared} (h : ∀ a, g a = s.heap.get? a) : obsY n fa fn tf ex g = (hookY n fa fn tf ex).obs s := by
  rw [show g = s.heap.get? from funext h] <;> rfl
end PL
namespace PL
theorem lk_cons {x y : PySem.Str} {gi gj : GI} {r : List (PySem.Str × GI)} {p : Prop} (e : List.lookup x ((y, gj) :: r) = some gi) (h1 : x = y → gj = gi → p) (h2 : List.lookup x r = some gi → p) : p := by
  rw [List.lookup_cons] at e
  split at e
  · rename_i q
    exact h1 (by simpa using q) (Option.some.inj e)
  · exact h2 e
end PL

set_option maxHeartbeats 4000000
namespace PL
open PySem PySem.Spec PyProof.Rows L2

/-! ### facts of the module's objects, by a Bool -/
inductive XB where
  | idx | ovf | ari
def XB.nm : XB → String
  | .idx => "IndexError" | .ovf => "OverflowError" | .ari => "ArithmeticError"
def XB.nw : XB → String
  | .idx => "IndexError.__new__" | .ovf => "OverflowError.__new__" | .ari => "ArithmeticError.__new__"
def XB.ini : XB → String
  | .idx => "IndexError.__init__" | .ovf => "OverflowError.__init__" | .ari => "ArithmeticError.__init__"
def XB.mro : XB → List Value
  | .idx => [.type "IndexError", .type "LookupError", .type "Exception", .type "BaseException", .type "object"]
  | .ovf => [.type "OverflowError", .type "ArithmeticError", .type "Exception", .type "BaseException", .type "object"]
  | .ari => [.type "ArithmeticError", .type "Exception", .type "BaseException", .type "object"]
theorem XB.base : ∀ b : XB, ExcBaseFacts b.nm b.nw b.ini b.mro ∧ PySem.W.KxsFacts b.nm b.ini ∧ StoreFacts b.nm b.mro "object.__setattr__" "object"
  | .idx => ⟨F.excBase_IndexError, PySem.W.kxs_IndexError, F.store_IndexError⟩
  | .ovf => ⟨F.excBase_OverflowError, PySem.W.kxs_OverflowError, F.store_OverflowError⟩
  | .ari => ⟨F.excBase_ArithmeticError, PySem.W.kxs_ArithmeticError, F.store_ArithmeticError⟩
def fldOk (f : Str) : Bool := decide (f = ("value" : Str)) || decide (f = ("number" : Str)) || decide (f = ("reason" : Str))
def ini2 (f : Str) : Arguments → Bool
  | ⟨[], [⟨a, none, _⟩, ⟨b, none, _⟩], none, [], [], none, []⟩ => decide (a = ("self" : Str)) && decide (b = f)
  | _ => false
def iniB (f : Str) : FuncBody → Bool
  | .stmts [.Expr (.Call (.Attribute (.Call (.Name s0 _) [] [] _) i0 p2) [.Constant (.str _) _ _] [] p4) _, .Assign [.Attribute (.Name s1 _) f1 _] (.Name y _) _] =>
    decide (s0 = ("super" : Str)) && decide (i0 = ("__init__" : Str)) && decide (s1 = ("self" : Str)) && decide (f1 = f) && decide (y = f) && (p2.endLine == p4.line)
  | _ => false
def scpB (f : Str) (sc : Scope) : Bool := (sc.names.all fun x => !decide (x.2 = .cell)) && decide (sc.names.lookup ("super" : Str) = some .globalImplicit) && decide (sc.names.lookup ("__class__" : Str) = some .free) && decide (sc.names.lookup ("self" : Str) = some .local) && decide (sc.names.lookup f = some .local) &&
  !sc.isCoroutine && !sc.isGenerator && decide (sc.kind = .function)
def isNonV : Value → Bool
  | .none => true
  | _ => false
def fdB (K : PySem.W.Frag) (file : Str) (C : Addr) (f : Str) (fd : FuncData) : Bool := ini2 f fd.params && iniB f fd.body && scpB f fd.scope && decide (fd.globals = mainGlobals) && decide (fd.builtins = builtinsNs) && isNonV fd.defaults && (match fd.closure, fd.code with
  | [(cn, cc)], .ref cda => decide (cn = ("__class__" : Str)) && (match K.lookup cc with
      | some ⟨_, _, .cell (some (.ref D)), _⟩ => D == C
      | _ => false) && PySem.W.codeIn K (.ref cda) fd.qualname && (match K.lookup cda with
      | some ⟨_, _, .fields vs, _⟩ => (match (vs[2]? : Option Value) with
        | some (.str fl _) => file == fl
        | _ => false)
      | _ => false)
  | _, _ => false)
def eqV (a b : Option (Option Value)) : Bool := decide (a = b)
def vcB (file : Str) (K : PySem.W.Frag) (b : XB) (x f : Str) : Bool := fldOk f && (match PySem.W.findIn K (.ref (He.ga K x)) "__init__" with
  | some (some (.ref fI)) => (match K.lookup fI with
    | some ⟨_, _, .func fd, _⟩ => fdB K file (He.ga K x) f fd
    | _ => false) && PySem.W.isFn K (.ref fI)
  | _ => false) && PySem.W.excInitIn K (He.ga K x) b.mro b.nw && decide (PySem.W.subIn K (.ref (He.ga K x)) (.type b.nm) = some true) && eqV (PySem.W.ks_superIn K (He.ga K x) (He.ga K x) "__init__") (some (some (.builtin b.ini))) && PySem.W.excOver K (He.ga K x) b.mro &&
  eqV (PySem.W.findIn K (.ref (He.ga K x)) "__setattr__") (some (some (.builtin "object.__setattr__"))) && eqV (PySem.W.takerIn K (He.ga K x) f) (some none) && PySem.W.hasDictIn K (He.ga K x) && eqV (PySem.W.nsIn K cStatics "thirdparty.any") (some none) && (PySem.W.clsIn K (He.ga K x)).isSome &&
  decide (PySem.W.mroIn K (He.ga K x) (.ref (He.ga K x)) = some true) && (PySem.W.keepIn K (.ref (He.ga K x)) && (decide (PySem.W.subIn K (.ref (He.ga K x)) (.type "BaseException") = some true) && decide (PySem.W.typeIn K (.ref (He.ga K x)) = some (.type "type"))))
theorem bind_ini {nm qual f : Str} {p0 p1 : Pos} {body : List Stmt} {scope : Scope} {kV doc pm cdv ct : Value} {an : Option Addr} {cc : Addr} (hf : fldOk f = true) (a v : Value) : bindArgs (PySem.W.ksFn nm qual ⟨[], [⟨"self", none, p0⟩, ⟨f, none, p1⟩], none, [], [], none, []⟩ body scope .none kV doc pm an cdv ct cc) ⟨[a, v], []⟩ = pure [(("self" : Str), a), (f, v)] := by
  unfold fldOk at hf
  simp only [Bool.or_eq_true, decide_eq_true_eq] at hf
  rcases hf with (hf | hf) | hf <;> subst hf <;> kernel_rfl
theorem fd_ok {prog : Program} {K : PySem.W.Frag} {C : Addr} {f : Str} {fd : FuncData} (h : fdB K prog.main.file C f fd = true) (hf : fldOk f = true) {fI : Addr} {oc : Value} {od : Option Addr} {osl : Array (Option Value)} (lk : K.lookup fI = some ⟨oc, od, .func fd, osl⟩) : ∃ cc cda,
    (∃ cl cld csl, K.lookup cc = some ⟨cl, cld, .cell (some (.ref C)), csl⟩) ∧ (∃ ccl cdd vs ccs file tf, K.lookup cda = some ⟨ccl, cdd, .fields vs, ccs⟩ ∧ vs[2]? = some (.str file tf) ∧ ((prog.main.file : Str) == file) = true) ∧
    (∃ oc od osl nm qual params scope dV kV doc pm an ct p0 p1 p2 p3 p4 p5 p6 p7 p8 p9 m j ar,
    K.lookup fI = some ⟨oc, od, .func (PySem.W.ksFn nm qual params [.Expr (.Call (.Attribute (.Call (.Name "super" p0) [] [] p1) "__init__" p2) [.Constant (.str m) j p3] [] p4) p5, .Assign [.Attribute (.Name "self" p6) f p7] (.Name f p8) p9] scope dV kV doc pm an (.ref cda) ct cc), osl⟩ ∧
    PySem.W.codeIn K (.ref cda) qual = true ∧ (params.posonlyargs ++ params.args).head? = some ar ∧ ar.arg = ("self" : Str) ∧
    (∀ (a v : Value), bindArgs (PySem.W.ksFn nm qual params [.Expr (.Call (.Attribute (.Call (.Name "super" p0) [] [] p1) "__init__" p2) [.Constant (.str m) j p3] [] p4) p5, .Assign [.Attribute (.Name "self" p6) f p7] (.Name f p8) p9] scope dV kV doc pm an (.ref cda) ct cc) ⟨[a, v], []⟩ = pure [(("self" : Str), a), (f, v)]) ∧
    (∀ x ∈ scope.names, x.2 ≠ .cell) ∧ scope.names.lookup ("super" : Str) = some .globalImplicit ∧ scope.names.lookup ("__class__" : Str) = some .free ∧ scope.names.lookup ("self" : Str) = some .local ∧ scope.names.lookup f = some .local ∧
    scope.isCoroutine = false ∧ scope.isGenerator = false ∧ scope.kind = .function ∧ (p2.endLine == p4.line) = true) := by
  obtain ⟨nm, qual, params, body, scope, globals, closure, dV, kV, doc, pm, an, code, ct, blt⟩ := fd
  unfold fdB at h
  simp only [Bool.and_eq_true, decide_eq_true_eq] at h
  obtain ⟨⟨⟨⟨⟨⟨h1, h2⟩, h3⟩, h4⟩, h5⟩, h6⟩, h7⟩ := h
  subst h4 h5
  have e6 : dV = .none := by
    cases dV <;> first
      | rfl
      | cases h6
  subst e6
  split at h7
  case h_2 => cases h7
  rename_i cn cc cda
  simp only [Bool.and_eq_true, decide_eq_true_eq] at h7
  obtain ⟨⟨⟨c1, c2⟩, c3⟩, c4⟩ := h7
  subst c1
  split at c2
  case h_2 => cases c2
  rename_i cl cld D csl lc
  have eD : D = C := by simpa using c2
  subst eD
  split at c4
  case h_2 => cases c4
  rename_i ccl cdd vs ccs ld
  split at c4
  case h_2 => cases c4
  rename_i fl tf hv
  unfold ini2 at h1
  split at h1
  case h_2 => cases h1
  rename_i a pa b pb
  simp only [Bool.and_eq_true, decide_eq_true_eq] at h1
  obtain ⟨rfl, rfl⟩ := h1
  unfold iniB at h2
  split at h2
  case h_2 => cases h2
  simp only [Bool.and_eq_true, decide_eq_true_eq] at h2
  obtain ⟨⟨⟨⟨⟨rfl, rfl⟩, rfl⟩, rfl⟩, rfl⟩, hp⟩ := h2
  unfold scpB at h3
  simp only [Bool.and_eq_true, decide_eq_true_eq, Bool.not_eq_true', List.all_eq_true, decide_eq_false_iff_not] at h3
  obtain ⟨⟨⟨⟨⟨⟨⟨s1, s2⟩, s3⟩, s4⟩, s5⟩, s6⟩, s7⟩, s8⟩ := h3
  exact ⟨cc, cda, ⟨_, _, _, lc⟩, ⟨_, _, _, _, _, _, ld, hv, c4⟩, _, _, _, _, _, _, _, _, _, _, _, _, _, _, _, _, _, _, _, _, _, _, _, _, _, _, lk, c3, rfl, rfl, bind_ini hf, s1, s2, s3, s4, s5, s6, s7, s8, hp⟩
theorem vc_ok {prog : Program} {K : PySem.W.Frag} {b : XB} {x f : Str} (h : vcB prog.main.file K b x f = true) (ht : (prog.main.scope.names.lookup ("super" : Str)).isSome = false) : ∃ fI cc cda, VcK prog K (He.ga K x) f b.nm b.nw b.ini b.mro fI cc cda ∧
    PySem.W.keepIn K (.ref (He.ga K x)) = true ∧ PySem.W.subIn K (.ref (He.ga K x)) (.type "BaseException") = some true ∧ PySem.W.typeIn K (.ref (He.ga K x)) = some (.type "type") := by
  unfold vcB eqV at h
  simp only [Bool.and_eq_true, decide_eq_true_eq] at h
  obtain ⟨⟨⟨⟨⟨⟨⟨⟨⟨⟨⟨⟨hf, h1⟩, h2⟩, h3⟩, h4⟩, h5⟩, h6⟩, h7⟩, h8⟩, h9⟩, h10⟩, h11⟩, h12, h13, h14⟩ := h
  split at h1
  case h_2 => cases h1
  rename_i fI hI
  simp only [Bool.and_eq_true] at h1
  obtain ⟨h1, h1f⟩ := h1
  split at h1
  case h_2 => cases h1
  rename_i oc od fd osl lk
  obtain ⟨cc, cda, g1, g2, g3⟩ := fd_ok h1 hf lk
  obtain ⟨b1, b2, b3⟩ := b.base
  have fx : f ≠ ("self" : Str) ∧ (f == ("__debug__" : Str)) = false := by
    unfold fldOk at hf
    simp only [Bool.or_eq_true, decide_eq_true_eq] at hf
    rcases hf with (hf | hf) | hf <;> subst hf <;> exact ⟨by decide, by decide⟩
  exact ⟨fI, cc, cda, ⟨hI, h2, h1f, h3, h4, h5, h6, h7, h8, h9, Option.isSome_iff_exists.mp h10, h11, g1, g2, g3, fx.1, fx.2, ht, b1, b2, b3⟩, h12, h13, h14⟩

/-! ### the law's own word for an error: its text -/
def metQ (N : List Str) (sc : Scope) : List Stmt → Option (List (Str × MA) × Str)
  | [.Try [.Expr (.Call (.Name a _) [] [] _) _] (h₀ :: hds) [] [] _, .Return (some (.Constant (.str fine) _ _)) _] =>
    if decide (N[0]? = some a) && decide (1 < N.length) && !(a == ("__debug__" : Str)) && !(a == ("__classdict__" : Str)) then (match hdM 1 N sc (h₀ :: hds) with
      | some l => some (l, fine)
      | none => none) else none
  | _ => none
def maB (K : PySem.W.Frag) : Str × MA → Bool
  | (_, .txt _) => true
  | (c, .raw f) => xfB K (He.ga K c) && eqV (PySem.W.findIn K (.ref (He.ga K c)) f) (some none)
  | (c, .ix f _) => xfB K (He.ga K c) && eqV (PySem.W.findIn K (.ref (He.ga K c)) f) (some none)
  | (c, .rep _ f) => xfB K (He.ga K c) && eqV (PySem.W.findIn K (.ref (He.ga K c)) f) (some none)
theorem xf_ok {K : PySem.W.Frag} {x f : Str} (b : maB K (x, .raw f) = true) : XfC K (He.ga K x) ∧ PySem.W.findIn K (.ref (He.ga K x)) f = some none := by
  simp only [maB, eqV, Bool.and_eq_true, decide_eq_true_eq] at b
  exact ⟨xfB_ok b.1, b.2⟩
theorem ma_ok {G : Gx} {l : List (Str × MA)} (h : ∀ c m, (c, m) ∈ l → G.mg c = some (.ref (He.ga G.K c))) (b : l.all (maB G.K) = true) : ∀ q ∈ l, MaOk G q := fun q hq => by
  have hb := List.all_eq_true.mp b q hq
  obtain ⟨c, m⟩ := q
  cases m with
  | txt t => exact ⟨_, h c _ hq⟩
  | raw f =>
    simp only [maB, eqV, Bool.and_eq_true, decide_eq_true_eq] at hb
    exact ⟨_, h c _ hq, xfB_ok hb.1, hb.2⟩
  | ix f j =>
    simp only [maB, eqV, Bool.and_eq_true, decide_eq_true_eq] at hb
    exact ⟨_, h c _ hq, xfB_ok hb.1, hb.2⟩
  | rep p f =>
    simp only [maB, eqV, Bool.and_eq_true, decide_eq_true_eq] at hb
    exact ⟨_, h c _ hq, xfB_ok hb.1, hb.2⟩
theorem met_ok {G : Gx} {x a fine : Str} {params : Arguments} {body : List Stmt} {scope : Scope} {g : Addr} {fd : FuncData} {N : List Str} {l : List (Str × MA)} (F : FunD G.K x x params body scope [] [] g fd) (gl : G.mg x = some (.ref g)) (S : FnScope N [a] scope) (q : metQ N scope body = some (l, fine))
    (hb : ∀ (kV doc pm : Value) (an : Option Addr) (cdv ct : Value) (us : List Value), us.length = [a].length → bindArgs (PySem.W.fnOf x x params body scope .none kV doc pm an cdv ct) ⟨us, []⟩ = pure ([a].zip us)) (hm : ∀ q ∈ l, MaOk G q) (rp : G.mg "repr" = none) : MetOk G x l fine := by
  refine ⟨?_, hm, rp⟩
  have bd := F.bindsN hb
  obtain ⟨oc, od, dV, kV, doc, pm, an, cdv, ct, osl, e, lk, hcd, _, _⟩ := F.ex
  unfold metQ at q
  split at q
  case h_2 => cases q
  rename_i a' p1 p2 p3 h₀ hds p4 fine' j p5 p6
  split at q
  case isFalse => cases q
  rename_i hc
  split at q
  case h_2 => cases q
  rename_i l' hl
  cases q
  simp only [Bool.and_eq_true, decide_eq_true_eq, Bool.not_eq_true'] at hc
  obtain ⟨⟨⟨c1, c2⟩, c3⟩, c4⟩ := hc
  have ea : a' = a := by
    have := S.pre
    cases N with
    | nil => cases c1
    | cons n ns => simp at this c1; rw [← c1, this]
  subst ea
  subst e
  exact ⟨g, params, h₀, hds, scope, dV, kV, doc, pm, cdv, ct, oc, an, od, osl, N, _, 1, j, p1, p2, p3, p4, p5, p6, gl, F.kp, lk, hcd, bd, S, c1, c2, c3, c4, hdM_ok _ _ hl⟩

/-! ### constants of the module -/
mutual
def relD (K : PySem.W.Frag) : Nat → Value → D → Bool
  | 0, _, _ => false
  | _ + 1, .int i _, .int j => decide (i = j)
  | _ + 1, .str s _, .str t => decide (s = t)
  | _ + 1, .bool b, .bl c => b == c
  | _ + 1, .none, .non => true
  | n + 1, .ref a, .tup ds => (match K.lookup a with
    | some ⟨.type c, _, .seq its _, _⟩ => decide (c = "tuple") && decide (its.size ≤ sizeLine) && relDs K n its.toList ds
    | _ => false)
  | _, _, _ => false
def relDs (K : PySem.W.Frag) : Nat → List Value → List D → Bool
  | 0, _, _ => false
  | _ + 1, [], [] => true
  | n + 1, u :: us, d :: ds => relD K n u d && relDs K n us ds
  | _, _, _ => false
end
mutual
theorem relD_ok {G : Gx} : ∀ (n : Nat) (u : Value) (d : D), relD G.K n u d = true → ∃ v, L2.RelV v u ∧ ∀ S H, Rp G S H d v
  | 0, _, _, h => by simp [relD] at h
  | n + 1, u, d, h => by
    unfold relD at h
    split at h
    · rename_i z; cases z
    · rename_i i t j z
      have e := of_decide_eq_true h
      subst e
      exact ⟨.int i, ⟨t, rfl⟩, fun _ _ => .int i⟩
    · rename_i i t j z
      have e := of_decide_eq_true h
      subst e
      exact ⟨.str i, ⟨t, rfl⟩, fun _ _ => .str i⟩
    · rename_i b c z
      have e : b = c := by simpa using h
      subst e
      exact ⟨.bl b, rfl, fun _ _ => .bl b⟩
    · exact ⟨.non, rfl, fun _ _ => .non⟩
    · rename_i m a ds z
      cases z
      split at h
      case h_2 => cases h
      rename_i c od its k sl lk
      simp only [Bool.and_eq_true, decide_eq_true_eq] at h
      obtain ⟨⟨rfl, h2⟩, h3⟩ := h
      obtain ⟨vs, r1, r2⟩ := relDs_ok n its.toList ds h3
      have w : WrT G.K a vs := ⟨_, its, k, lk, rfl, rfl, h2, r1⟩
      exact ⟨.ref a, rfl, fun S H => .tup (.inr w) (.inr w) (r2 S H)⟩
    · cases h
theorem relDs_ok {G : Gx} : ∀ (n : Nat) (us : List Value) (ds : List D), relDs G.K n us ds = true → ∃ vs, Vals vs us ∧ ∀ S H, RpL G S H ds vs
  | 0, _, _, h => by simp [relDs] at h
  | n + 1, us, ds, h => by
    unfold relDs at h
    split at h
    · rename_i z; cases z
    · exact ⟨[], .nil, fun _ _ => .nil⟩
    · rename_i m u us d ds z
      cases z
      simp only [Bool.and_eq_true] at h
      obtain ⟨v, r1, r2⟩ := relD_ok n u d h.1
      obtain ⟨vs, r3, r4⟩ := relDs_ok n us ds h.2
      exact ⟨v :: vs, .cons r1 r3, fun S H => .cons (r2 S H) (r4 S H)⟩
    · cases h
end
def cstB (K : PySem.W.Frag) (x : Str) (d : D) : Bool := match PySem.W.nsIn K mainGlobals x with
  | some (some u) => relD K 64 u d
  | _ => false
theorem cst_ok {G : Gx} {h : Heap} {x : Str} {d : D} (X : G.K.In h) (N : h.Ns mainGlobals G.mg) (c : cstB G.K x d = true) : ∃ (v : V) (u : Value), G.mg x = some u ∧ L2.RelV v u ∧ ∀ S H, Rp G S H d v := by
  unfold cstB at c
  split at c
  case h_2 => cases c
  rename_i u q
  obtain ⟨v, r1, r2⟩ := relD_ok 64 u d c
  exact ⟨v, u, PySem.W.mg_of X N q, r1, r2⟩

/-! ### the whole -/
def GGf (fl : Str → Str) (tf : List He.Defn) (K : PySem.W.Frag) (mg : Str → Option Value) : Gx := ⟨K, mg, fl, tf.map fun d => ((He.cT K d).2, d.1 ++ ".<locals>." ++ "<lambda>"), tf.map (He.cT K)⟩
def uniT (tf : List He.Defn) (K : PySem.W.Frag) : Bool := (tf.map fun d => ((He.cT K d).2, d.1)).all fun p => (tf.map fun d => ((He.cT K d).2, d.1)).all fun q => !(q.1 == p.1) || decide (q.2 = p.2)
theorem exAt {K : PySem.W.Frag} {l : List (PySem.W.Frag → Bool)} (h : (l.all fun f => f K) = true) (i : Nat) {f : PySem.W.Frag → Bool} (hf : l[i]? = some f := by rfl) : f K = true := List.all_eq_true.mp h f (List.mem_of_getElem? hf)
theorem lamF_of {fl : Str → Str} {tf : List He.Defn} {K : PySem.W.Frag} {mg : Str → Option Value} {base : Heap} {x : Str} {fd : FuncData} (hx : (x, none) ∈ tf) (TB : ∀ p ∈ (GGf fl tf K mg).cs, LamX.TabB base mg p.1 p.2) (u : uniT tf K = true) : LamF (GGf fl tf K mg) base (He.fAd K (x, none)) fd x := fun oc od osl c lk e => by
  have ec : He.codeOf K (x, none) = c := He.codeOf_eq lk e
  have m := TB _ (List.mem_map_of_mem (f := He.cT K) hx)
  have e1 : (He.cT K (x, none)).1 = c := ec
  rw [e1] at m
  refine ⟨_, m, List.mem_map_of_mem (f := fun d : He.Defn => ((He.cT K d).2, d.1 ++ ".<locals>." ++ "<lambda>")) hx, fun p hp ep => ?_⟩
  obtain ⟨d, hd, rfl⟩ := List.mem_map.mp hp
  have a := List.all_eq_true.mp (List.all_eq_true.mp u _ (List.mem_map_of_mem (f := fun d : He.Defn => ((He.cT K d).2, d.1)) hx)) _ (List.mem_map_of_mem (f := fun d : He.Defn => ((He.cT K d).2, d.1)) hd)
  have ep : (He.cT K d).2 = (He.cT K (x, none)).2 := ep
  simp only [ep, beq_self_eq_true, Bool.not_true, Bool.false_or, decide_eq_true_eq] at a
  rw [a]
theorem tabs_of {fl : Str → Str} {fa : List He.Fa} {fn : List He.DefD} {tf : List He.Defn} {ex : PySem.W.Frag → Bool} {h : Heap} {K : PySem.W.Frag} {mg : Str → Option Value} (X : K.In h) (c : SaysY fa fn tf ex h K) :
    (∀ p ∈ (GGf fl tf K mg).cs, h.get? p.2 = some { cls := .none, data := .fields #[] }) ∧ (∀ p ∈ (GGf fl tf K mg).cs, K.lookup p.2 = none) ∧ (∀ p ∈ (GGf fl tf K mg).cs, PySem.W.CodeHd h p.1 p.2) ∧ (∀ p ∈ (GGf fl tf K mg).T, ∃ c, (c, p.1) ∈ (GGf fl tf K mg).cs) := by
  refine ⟨fun p hp => ?_, fun p hp => ?_, fun p hp => ?_, fun p hp => ?_⟩
  · obtain ⟨d, hd, rfl⟩ := List.mem_map.mp hp; exact c.empty d hd
  · obtain ⟨d, hd, rfl⟩ := List.mem_map.mp hp; exact c.out d hd
  · obtain ⟨d, hd, rfl⟩ := List.mem_map.mp hp; exact PySem.W.codeHd_of_K X (c.hd d hd)
  · obtain ⟨d, hd, rfl⟩ := List.mem_map.mp hp; exact ⟨_, List.mem_map_of_mem (f := He.cT K) hd⟩
/-- a pair of classes -/
theorem xm_cons {a b : Str} {v : Bool} {q : Str × Str} {w : Bool} {r : List ((Str × Str) × Bool)} {p : Prop} (e : List.lookup (a, b) ((q, w) :: r) = some v) (h1 : (a, b) = q → w = v → p) (h2 : List.lookup (a, b) r = some v → p) : p := by
  rw [List.lookup_cons] at e
  split at e
  · rename_i z
    exact h1 (by simpa using z) (Option.some.inj e)
  · exact h2 e
end PL

namespace PL
open PySem PySem.Spec PyProof.Rows L2

/-! ### meanings step by step -/
section
variable {env env1 env2 env3 : Env} {f g : M O} {r : R O} {d a b : D} {sv : SV} {xs ys ds : List D}
theorem seq_nx (h1 : f env = .ok .next env1) (h2 : g env1 = r) : sSeq f g env = r := by
  unfold sSeq bnd; rw [h1]; exact h2
theorem seq_rt (h1 : f env = .ok (.ret sv) env1) : sSeq f g env = .ok (.ret sv) env1 := by
  unfold sSeq bnd; rw [h1]; rfl
theorem bnd_ok {α β : Type} {m : M α} {k : α → M β} {x : α} (h : m env = .ok x env1) : bnd m k env = k x env1 := by
  unfold bnd; rw [h]; rfl
theorem wipe_get {vs : List Nat} {i : Nat} (hi : i ∈ vs) : ∀ {env : Env}, i < env.length → (wipeE env vs)[i]? = some .none := by
  induction vs with
  | nil => cases hi
  | cons v vs ih =>
    intro env hl
    unfold wipeE
    by_cases e : i = v
    · subst e
      rw [List.getElem?_set_self (by rw [wipeE_len]; exact hl)]
    · rw [List.getElem?_set_ne (Ne.symm e)]
      exact ih ((List.mem_cons.mp hi).resolve_left e) hl
theorem rest_get_in {vs : List Nat} {i : Nat} {env0 : Env} (hi : i ∈ vs) : ∀ {env : Env}, i < env.length → (restE env0 env vs)[i]? = some (svAt env0 i) := by
  induction vs with
  | nil => cases hi
  | cons v vs ih =>
    intro env hl
    unfold restE
    by_cases e : i = v
    · subst e
      rw [List.getElem?_set_self (by rw [restE_len]; exact hl)]
    · rw [List.getElem?_set_ne (Ne.symm e)]
      exact ih ((List.mem_cons.mp hi).resolve_left e) hl
theorem rest_get_out {vs : List Nat} {i : Nat} {env0 : Env} (hi : i ∉ vs) {env : Env} : (restE env0 env vs)[i]? = env[i]? := by
  induction vs with
  | nil => rfl
  | cons v vs ih =>
    simp only [List.mem_cons, not_or] at hi
    unfold restE
    rw [List.getElem?_set_ne (Ne.symm hi.1)]
    exact ih hi.2
theorem rest_wipe (env : Env) (vs : List Nat) : restE env (wipeE env vs) vs = env := by
  refine List.ext_getElem? fun i => ?_
  by_cases hl : i < env.length
  · by_cases hi : i ∈ vs
    · rw [rest_get_in hi (by rw [wipeE_len]; exact hl)]
      unfold svAt
      rw [List.getElem?_eq_getElem hl]
    · rw [rest_get_out hi, wipeE_out hi]
  · rw [List.getElem?_eq_none (by rw [restE_len, wipeE_len]; omega), List.getElem?_eq_none (by omega)]
/-! comprehensions -/
theorem lcT_some {t : Tg} {c : M Bool} {e : M D} {z : D} (h1 : asg t d env = some env1) (h2 : c env1 = .ok true env2) (h3 : e env2 = .ok z env3) : lcT t c e d env = .ok (some z) env3 := by
  unfold lcT bnd asgM
  rw [h1]
  simp only [R.bind, h2, if_true, h3, ret, noX]
theorem lcT_none {t : Tg} {c : M Bool} {e : M D} (h1 : asg t d env = some env1) (h2 : c env1 = .ok false env2) : lcT t c e d env = .ok none env2 := by
  unfold lcT bnd asgM
  rw [h1]
  simp only [R.bind, h2, ret, noX, Bool.false_eq_true, if_false]
def addO : Option D → List D → List D
  | some z, ys => z :: ys
  | none, ys => ys
theorem lcL_step {vs : List Nat} {t : Tg} {c : M Bool} {e : M D} {y : Option D} (h1 : lcT t c e d env = .ok y env1) (h2 : lcL vs t c e ds (wipeE env1 vs) = .ok ys env2) :
    lcL vs t c e (d :: ds) env = .ok (addO y ys) env2 := by
  simp only [lcL, bnd, h1, R.bind, wipeM, h2, ret]
  cases y <;> rfl
/-- each item alone, nothing changed -/
theorem lcL_map {vs : List Nat} {t : Tg} {c : M Bool} {e : M D} (g : D → D) : ∀ ds : List D, (∀ d ∈ ds, ∃ env1 env2 env3, asg t d env = some env1 ∧ c env1 = .ok true env2 ∧ e env2 = .ok (g d) env3 ∧ wipeE env3 vs = env) → lcL vs t c e ds env = .ok (ds.map g) env
  | [], _ => rfl
  | d :: ds, h => by
    obtain ⟨e1, e2, e3, h1, h2, h3, h4⟩ := h d (List.mem_cons_self ..)
    have ih := lcL_map g ds fun x hx => h x (List.mem_cons_of_mem _ hx)
    rw [← h4] at ih
    have := lcL_step (lcT_some h1 h2 h3) ih
    rw [this, h4]
    rfl
theorem eLc_of {f : M (List D)} {vs : List Nat} {t : Tg} {c : M Bool} {e : M D} (h1 : f env = .ok ds env1) (hz : ds.length ≤ 16777216) (h2 : lcL vs t c e ds (wipeE env1 vs) = .ok ys env2) : eLc f vs t c e env = .ok ys (restE env1 env2 vs) := by
  unfold eLc
  rw [bnd_ok h1]
  rw [if_pos (by unfold fits; exact decide_eq_true hz), h2]
  rfl
theorem eLc_map {f : M (List D)} {vs : List Nat} {t : Tg} {c : M Bool} {e : M D} (g : D → D) (h1 : f env = .ok ds env1) (hz : ds.length ≤ 16777216)
    (h : ∀ d ∈ ds, ∃ e1 e2 e3, asg t d (wipeE env1 vs) = some e1 ∧ c e1 = .ok true e2 ∧ e e2 = .ok (g d) e3 ∧ wipeE e3 vs = wipeE env1 vs) : eLc f vs t c e env = .ok (ds.map g) env1 := by
  rw [eLc_of h1 hz (lcL_map g ds h), rest_wipe]
/-- an invariant through the turns -/
theorem lcL_inv {vs : List Nat} {t : Tg} {c : M Bool} {e : M D} (I : Env → Prop) (P : D → Prop) : ∀ (ds : List D) (env : Env), I env → (∀ d ∈ ds, ∀ env, I env → ∃ e1 e2 e3 z, asg t d env = some e1 ∧ c e1 = .ok true e2 ∧ e e2 = .ok z e3 ∧ P z ∧ I (wipeE e3 vs)) →
    ∃ ys env', lcL vs t c e ds env = .ok ys env' ∧ I env' ∧ (∀ y ∈ ys, P y) ∧ ys.length = ds.length
  | [], env, hi, _ => ⟨[], env, rfl, hi, by simp, rfl⟩
  | d :: ds, env, hi, h => by
    obtain ⟨e1, e2, e3, z, h1, h2, h3, h4, h5⟩ := h d (List.mem_cons_self ..) env hi
    obtain ⟨ys, env', k1, k2, k3, k4⟩ := lcL_inv I P ds _ h5 fun x hx => h x (List.mem_cons_of_mem _ hx)
    refine ⟨z :: ys, env', lcL_step (lcT_some h1 h2 h3) k1, k2, fun y hy => ?_, congrArg Nat.succ k4⟩
    rcases List.mem_cons.mp hy with rfl | hy
    · exact h4
    · exact k3 y hy
/-! loops -/
theorem forL_nil {t : Tg} {b : M O} : forL t b [] env = .ok .next env := rfl
theorem forL_nx {t : Tg} {b : M O} (h1 : asg t d env = some env1) (h2 : b env1 = .ok .next env2) : forL t b (d :: ds) env = forL t b ds env2 := by
  simp only [forL, bnd, asgM, h1, R.bind, h2, loopK]
theorem forL_rt {t : Tg} {b : M O} (h1 : asg t d env = some env1) (h2 : b env1 = .ok (.ret sv) env2) : forL t b (d :: ds) env = .ok (.ret sv) env2 := by
  simp only [forL, bnd, asgM, h1, R.bind, h2, loopK, ret]
/-- an invariant through a for, told of what is left -/
theorem forL_inv {t : Tg} {b : M O} (I : List D → Env → Prop) : ∀ (ds : List D) (env : Env), I ds env → (∀ d ds env, I (d :: ds) env → ∃ e1 e2, asg t d env = some e1 ∧ b e1 = .ok .next e2 ∧ I ds e2) → ∃ env', forL t b ds env = .ok .next env' ∧ I [] env'
  | [], env, hi, _ => ⟨env, rfl, hi⟩
  | d :: ds, env, hi, h => by
    obtain ⟨e1, e2, h1, h2, h3⟩ := h d ds env hi
    rw [forL_nx h1 h2]
    exact forL_inv I ds e2 h3 h
theorem while_tt {c : M Bool} {b : M O} {n : Nat} (h1 : c env = .ok true env1) (h2 : b env1 = .ok .next env2) : whileN c b (n + 1) env = whileN c b n env2 := by
  simp only [whileN, bnd, h1, R.bind, if_true, h2, loopK]
theorem while_ff {c : M Bool} {b : M O} {n : Nat} (h1 : c env = .ok false env1) : whileN c b (n + 1) env = .ok .next env1 := by
  simp only [whileN, bnd, h1, R.bind, ret, Bool.false_eq_true, if_false]
end
/-! ### equality and texts of data -/
theorem eqv_same {d : D} (h : shp 64 d = true) : PyData.eqv (toPy d) (toPy d) = true := SeqAt.eqv_refl _ (shp_ok 64 d h).1
theorem gEq_same {d : D} (h : shp 64 d = true) : gEq d d = some (.bl true) := by
  unfold gEq
  have e : dEqv d d = some true := by
    cases d <;> simp only [dEqv, h, Bool.and_self, if_true, eqv_same h, decide_true] <;> rfl
  rw [e]
theorem gNe_same {d : D} (h : shp 64 d = true) : gNe d d = some (.bl false) := by
  unfold gNe
  have e : dEqv d d = some true := by
    cases d <;> simp only [dEqv, h, Bool.and_self, if_true, eqv_same h, decide_true] <;> rfl
  rw [e]; rfl
end PL
namespace PL
open PySem PySem.Spec PyProof.Rows L2
/-! ### texts of nested numbers -/
mutual
def cnt : D → Nat
  | .tup xs => 2 + cntL xs
  | .lst xs => 2 + cntL xs
  | _ => 1
def cntL : List D → Nat
  | [] => 0
  | x :: xs => cnt x + cntL xs
end
/-- numbers of bounded size, tuples and lists of them, to a depth -/
def nums : Nat → D → Bool
  | _, .non => true
  | _, .bl _ => true
  | _, .int i => decide (i.natAbs.log2 < 1920)
  | 0, _ => false
  | n + 1, .tup xs => xs.all (nums n)
  | n + 1, .lst xs => xs.all (nums n)
  | _, _ => false
theorem nums_shp : ∀ (n : Nat) (d : D), nums n d = true → shp n d = true
  | n, .non, _ => by cases n <;> rfl
  | n, .bl _, _ => by cases n <;> rfl
  | n, .int _, _ => by cases n <;> rfl
  | 0, .tup _, h => by simp [nums] at h
  | 0, .lst _, h => by simp [nums] at h
  | n + 1, .tup xs, h => by
    simp only [nums, List.all_eq_true] at h
    simp only [shp, List.all_eq_true]
    exact fun x hx => nums_shp n x (h x hx)
  | n + 1, .lst xs, h => by
    simp only [nums, List.all_eq_true] at h
    simp only [shp, List.all_eq_true]
    exact fun x hx => nums_shp n x (h x hx)
  | n, .str _, h => by cases n <;> simp [nums] at h
  | n, .fn _, h => by cases n <;> simp [nums] at h
  | n, .rol _, h => by cases n <;> simp [nums] at h
  | n, .dct _, h => by cases n <;> simp [nums] at h
theorem slen (a b : PySem.Str) : (a ++ b).length = a.length + b.length := by
  show (Array.size (a.cps ++ b.cps)) = _
  rw [Array.size_append]; rfl
def sumL : List PySem.Str → Nat
  | [] => 0
  | t :: ts => t.length + 2 + sumL ts
theorem from_len : ∀ (ts : List PySem.Str) (k : Nat) (acc : PySem.Str), (textFrom k acc ts).length ≤ acc.length + sumL ts
  | [], k, acc => Nat.le_refl _
  | t :: ts, k, acc => by
    have ih := from_len ts (k + 1) (acc ++ (if k > 0 then ", " else "" : String) ++ t)
    have e : (acc ++ ((if k > 0 then ", " else "" : String) : PySem.Str) ++ t).length ≤ acc.length + 2 + t.length := by
      rw [slen, slen]
      split
      · have : (Str.ofString ", ").length = 2 := by decide
        omega
      · have : (Str.ofString "").length = 0 := by decide
        omega
    refine Nat.le_trans ih ?_
    show _ ≤ acc.length + (t.length + 2 + sumL ts)
    omega
theorem list_len (ts : List PySem.Str) : (listText ts).length ≤ 2 + sumL ts := by
  unfold listText
  rw [slen]
  have h1 := from_len ts 0 "["
  have h2 : (Str.ofString "[").length = 1 := by decide
  have h3 : (Str.ofString "]").length = 1 := by decide
  omega
end PL
namespace PL
open PySem PySem.Spec PyProof.Rows L2
theorem join_len : ∀ ts : List PySem.Str, (Str.join ", " ts).length ≤ sumL ts
  | [] => Nat.le_refl _
  | [x] => by
    show x.length ≤ x.length + 2 + 0
    omega
  | x :: y :: r => by
    have ih := join_len (y :: r)
    show (x ++ (Str.ofString ", ") ++ Str.join ", " (y :: r)).length ≤ x.length + 2 + sumL (y :: r)
    rw [slen, slen]
    have : (Str.ofString ", ").length = 2 := by decide
    omega
theorem tup_len (ts : List PySem.Str) : (tupleText ts).length ≤ 3 + sumL ts := by
  unfold tupleText
  rw [slen, slen]
  have h1 := join_len ts
  have h2 : (Str.ofString "(").length = 1 := by decide
  split
  · have h3 : (Str.ofString ",)").length = 2 := by decide
    omega
  · have h3 : (Str.ofString ")").length = 1 := by decide
    omega
mutual
theorem shown_len : ∀ (n : Nat) (d : D), nums n d = true → (toPy d).showable = true ∧ (toPy d).shown.length + 2 ≤ 1930 * cnt d
  | n, .non, _ => by
    have h3 : (Str.ofString "None").length = 4 := by decide
    exact ⟨rfl, by simp only [toPy, PyData.shown, cnt, h3]; omega⟩
  | n, .bl b, _ => by
    refine ⟨rfl, ?_⟩
    simp only [toPy, PyData.shown, cnt]
    cases b
    · have h3 : (Str.ofString "False").length = 5 := by decide
      show (Str.ofString "False").length + 2 ≤ _
      omega
    · have h3 : (Str.ofString "True").length = 4 := by decide
      show (Str.ofString "True").length + 2 ≤ _
      omega
  | n, .int i, h => by
    have hi : i.natAbs.log2 < 1920 := by cases n <;> simpa [nums] using h
    refine ⟨by simp only [toPy, PyData.showable, hi, decide_true], ?_⟩
    simp only [toPy, PyData.shown, cnt]
    have := int_text_len_1921 hi
    omega
  | 0, .tup _, h => by simp [nums] at h
  | 0, .lst _, h => by simp [nums] at h
  | n + 1, .tup xs, h => by
    simp only [nums] at h
    obtain ⟨h1, h2⟩ := shownL_len n xs h
    refine ⟨by simp only [toPy, PyData.showable]; exact h1, ?_⟩
    simp only [toPy, PyData.shown, cnt]
    have := tup_len (PyData.shownAll (toPyL xs))
    omega
  | n + 1, .lst xs, h => by
    simp only [nums] at h
    obtain ⟨h1, h2⟩ := shownL_len n xs h
    refine ⟨by simp only [toPy, PyData.showable]; exact h1, ?_⟩
    simp only [toPy, PyData.shown, cnt]
    have := list_len (PyData.shownAll (toPyL xs))
    omega
  | n, .str _, h => by cases n <;> simp [nums] at h
  | n, .fn _, h => by cases n <;> simp [nums] at h
  | n, .rol _, h => by cases n <;> simp [nums] at h
  | n, .dct _, h => by cases n <;> simp [nums] at h
theorem shownL_len : ∀ (n : Nat) (ds : List D), ds.all (nums n) = true → PyData.showableAll (toPyL ds) = true ∧ sumL (PyData.shownAll (toPyL ds)) ≤ 1930 * cntL ds
  | n, [], _ => ⟨rfl, by simp [toPyL, PyData.shownAll, sumL, cntL]⟩
  | n, d :: ds, h => by
    simp only [List.all_cons, Bool.and_eq_true] at h
    obtain ⟨h1, h2⟩ := shown_len n d h.1
    obtain ⟨h3, h4⟩ := shownL_len n ds h.2
    refine ⟨by simp only [toPyL, PyData.showableAll, h1, h3, Bool.and_self], ?_⟩
    simp only [toPyL, PyData.shownAll, sumL, cntL]
    omega
end
theorem gRepr_lst {xs : List D} (h : nums 64 (.lst xs) = true) (hc : cntL xs ≤ 8000) : gRepr [.lst xs] = some (.str (toPy (.lst xs)).shown) := by
  obtain ⟨h1, h2⟩ := shown_len 64 _ h
  have h3 := nums_shp 64 _ h
  simp only [gRepr]
  rw [if_pos]
  simp only [h1, h3, Bool.and_self, Bool.true_and, fits, decide_eq_true_eq]
  simp only [cnt] at h2
  omega
theorem gRepr_tup {xs : List D} (h : nums 64 (.tup xs) = true) (hc : cntL xs ≤ 8000) : gRepr [.tup xs] = some (.str (toPy (.tup xs)).shown) := by
  obtain ⟨h1, h2⟩ := shown_len 64 _ h
  have h3 := nums_shp 64 _ h
  simp only [gRepr]
  rw [if_pos]
  simp only [h1, h3, Bool.and_self, Bool.true_and, fits, decide_eq_true_eq]
  simp only [cnt] at h2
  omega
end PL

namespace PL
open PySem PySem.Spec PyProof.Rows L2

/-! ### meanings by rewriting -/
section
variable {α β : Type} {env e1 : Env} {a b d : D} {i j k : Nat}
@[simp] theorem w_ret {x : α} : PL.ret x env = .ok x env := rfl
@[simp] theorem w_bnd {f : M α} {g : α → M β} : bnd f g env = (f env).bind g := rfl
@[simp] theorem w_ok {x : α} {g : α → M β} : (R.ok x e1).bind g = g x e1 := rfl
@[simp] theorem w_stuck {g : α → M β} : (R.stuck : R α).bind g = .stuck := rfl
@[simp] theorem w_exc {x : Ex} {g : α → M β} : (R.exc x e1 : R α).bind g = .exc x e1 := rfl
@[simp] theorem w_lifS {x : α} : lif (some x) env = .ok x env := rfl
@[simp] theorem w_lifN : lif (none : Option α) env = .stuck := rfl
@[simp] theorem w_eC : eC d env = .ok d env := rfl
@[simp] theorem w_eVar : eVar i env = (match env[i]? with
  | some (.val d) => .ok d env
  | some (.own _ xs) => .ok (.lst xs) (env.set i (.val (.lst xs)))
  | _ => .stuck) := rfl
@[simp] theorem w_eOp {g : D → D → Option D} {f h : M D} : eOp g f h env = (f env).bind fun a => bnd h fun b => lif (g a b) := rfl
@[simp] theorem w_eUn {g : D → Option D} {f : M D} : eUn g f env = (f env).bind fun a => lif (g a) := rfl
@[simp] theorem w_eCons {f : M D} {g : M (List D)} : eCons f g env = (f env).bind fun a => bnd g fun as => PL.ret (a :: as) := rfl
@[simp] theorem w_eNil : eNil env = .ok [] env := rfl
@[simp] theorem w_eFn {g : List D → Option D} {f : M (List D)} : eFn g f env = (f env).bind fun a => lif (g a) := rfl
@[simp] theorem w_eFnF {g : List D → Option (List D)} {f : M (List D)} : eFnF g f env = (f env).bind fun a => lif (g a) := rfl
@[simp] theorem w_eOpF {g : D → D → Option (List D)} {f h : M D} : eOpF g f h env = (f env).bind fun a => bnd h fun b => lif (g a b) := rfl
@[simp] theorem w_eTup {f : M (List D)} : eTup f env = (f env).bind fun as => lif (if fits as.length then some (.tup as) else none) := rfl
@[simp] theorem w_eLstO {f : M (List D)} : eLstO f env = (f env).bind fun as => lif (if fits as.length then some as else none) := rfl
@[simp] theorem w_eOfF {f : M (List D)} : eOfF f env = (f env).bind fun as => PL.ret (.lst as) := rfl
@[simp] theorem w_rd : rd j env = (match env[j]? with
  | some (.val d) => .ok (some d) env
  | some (.own _ _) => .ok none env
  | _ => .stuck) := rfl
@[simp] theorem w_getO : getO j env = (match env[j]? with
  | some (.own _ xs) => .ok xs env
  | _ => .stuck) := rfl
@[simp] theorem w_getIx : getIx j d env = (match env[j]? with
  | some (.own _ xs) => (match gIx (.lst xs) d with
    | some d => .ok d env
    | none => .stuck)
  | _ => .stuck) := rfl
@[simp] theorem w_eIxB {f : M D} : eIxB j f env = (rd j env).bind fun o => bnd f fun k => (match o with
  | some x => lif (gIx x k)
  | none => getIx j k) := rfl
@[simp] theorem w_eOpL {g : D → D → Option D} {f : M D} : eOpL g j f env = (rd j env).bind fun o => bnd f fun y => (match o with
  | some x => lif (g x y)
  | none => bnd (getO j) fun xs => lif (scalO (g (.lst xs) y))) := rfl
@[simp] theorem w_eOpR {g : D → D → Option D} {f : M D} : eOpR g f j env = (f env).bind fun x => bnd (rd j) fun o => (match o with
  | some y => lif (g x y)
  | none => bnd (getO j) fun xs => lif (scalO (g x (.lst xs)))) := rfl
@[simp] theorem w_eFnB {g : List D → Option D} : eFnB g j env = (rd j env).bind fun o => (match o with
  | some x => lif (g [x])
  | none => bnd (getO j) fun xs => lif (scalO (g [.lst xs]))) := rfl
@[simp] theorem w_eFnO {g : List D → Option D} : eFnO g j env = (match env[j]? with
  | some (.own _ xs) => (match g [.lst xs] with
    | some d => .ok d env
    | none => .stuck)
  | some (.val d) => (match g [d] with
    | some d => .ok d env
    | none => .stuck)
  | _ => .stuck) := rfl
@[simp] theorem w_eNotV {f : M D} : eNotV f env = (f env).bind fun x => lif ((dTru x).map fun k => .bl (!k)) := rfl
@[simp] theorem w_eAndV {f g : M D} : eAndV f g env = (f env).bind fun x => bnd (lif (dTru x)) fun k => if k then g else PL.ret x := rfl
@[simp] theorem w_eOrV {f g : M D} : eOrV f g env = (f env).bind fun x => bnd (lif (dTru x)) fun k => if k then PL.ret x else g := rfl
@[simp] theorem w_eChain {g g' : D → D → Option D} {fa fb fc : M D} : eChain g g' fa fb fc env = (fa env).bind fun x => bnd fb fun y => bnd (lif ((g x y).bind asB)) fun k => if k then bnd fc fun z => lif (g' y z) else PL.ret (.bl false) := rfl
@[simp] theorem w_eIf {c : M Bool} {f g : M D} : eIf c f g env = (c env).bind fun b => if b then f else g := rfl
@[simp] theorem w_eIsi {s : String} {f : M D} : eIsi s f env = (f env).bind fun d => lif ((dTy d).map fun a => .bl (isiB a s)) := rfl
@[simp] theorem w_eTB {f : M D} : eTB f env = (f env).bind fun d => lif (asB d) := rfl
@[simp] theorem w_eTru {f : M D} : eTru f env = (f env).bind fun d => lif (dTru d) := rfl
@[simp] theorem w_eTruB : eTruB j env = (rd j env).bind fun o => (match o with
  | some x => lif (dTru x)
  | none => bnd (getO j) fun xs => PL.ret (!xs.isEmpty)) := rfl
@[simp] theorem w_and {f g : M Bool} : tAndM f g env = (f env).bind fun b => if b then g else PL.ret false := rfl
@[simp] theorem w_or {f g : M Bool} : tOrM f g env = (f env).bind fun b => if b then PL.ret true else g := rfl
@[simp] theorem w_not {f : M Bool} : tNotM f env = (f env).bind fun b => PL.ret (!b) := rfl
@[simp] theorem w_aVal {f : M D} : aVal f env = (f env).bind fun d => PL.ret (.val d) := rfl
@[simp] theorem w_aNil : aNil env = .ok [] env := rfl
@[simp] theorem w_aCons {f : M AV} {g : M (List AV)} : aCons f g env = (f env).bind fun a => bnd g fun as => PL.ret (a :: as) := rfl
@[simp] theorem w_aRefV : aRefV j env = (match env[j]? with
  | some (.own _ _) => .ok (.ref j) env
  | some (.val d) => .ok (.val d) env
  | _ => .stuck) := rfl
@[simp] theorem w_eCall {np : Nat} {F : Fn} {f : M (List AV)} : eCall np F f env = (f env).bind fun avs => bnd (callF np F avs) fun r => lif (asVal r) := rfl
@[simp] theorem w_uCall {np : Nat} {F : Fn} {f : M (List AV)} : uCall np F f env = (f env).bind fun avs => bnd (callF np F avs) fun r => lif (asU r) := rfl
@[simp] theorem w_callF {np : Nat} {F : Fn} {avs : List AV} : callF np F avs env = (if oneRef avs && decide (avs.length = np) then (match svsOf env avs with
    | some svs => (match F svs with
      | .ok r outs => .ok r (bring env avs outs)
      | .exc x outs => .exc x (bring env avs outs)
      | .stuck => .stuck)
    | none => .stuck) else .stuck) := rfl
@[simp] theorem w_uVal {f : M D} : uVal f env = (f env).bind fun d => PL.ret (.val d) := rfl
@[simp] theorem w_uOwn {f : M (List D)} : uOwn f env = (f env).bind fun xs => PL.ret (.own false xs) := rfl
@[simp] theorem w_uNil : uNil env = .ok [] env := rfl
@[simp] theorem w_uCons {f : M SV} {g : M (List SV)} : uCons f g env = (f env).bind fun a => bnd g fun as => PL.ret (a :: as) := rfl
@[simp] theorem w_seq {f g : M O} : sSeq f g env = (f env).bind fun o => (match o with
  | .next => g
  | o => PL.ret o) := rfl
@[simp] theorem w_if {c : M Bool} {f g : M O} : sIf c f g env = (c env).bind fun b => if b then f else g := rfl
@[simp] theorem w_setU {f : M SV} : sSetU i f env = (f env).bind (putM i) := rfl
@[simp] theorem w_setO {f : M (List D)} : sSetO i f env = (f env).bind (putO i) := rfl
@[simp] theorem w_putO {xs : List D} : putO i xs env = (if i < env.length then .ok .next (env.set i (.own false xs)) else .stuck) := rfl
@[simp] theorem w_putV : putM i (.val d) env = (if i < env.length then .ok .next (env.set i (.val d)) else .stuck) := by
  unfold putM putU
  split <;> rename_i h <;> (split at h <;> simp_all)
@[simp] theorem w_putW {io : Bool} {xs : List D} : putM i (.own io xs) env = (if i < env.length then .ok .next (env.set i (.own false xs)) else .stuck) := by
  unfold putM putU
  split <;> rename_i h <;> (split at h <;> simp_all)
@[simp] theorem w_par2 {f : M (List SV)} : sPar2 i j f env = (f env).bind fun svs => (match svs with
  | [a, b] => bnd (putM i a) fun _ => putM j b
  | _ => sStuck) := rfl
@[simp] theorem w_par3 {f : M (List SV)} : sPar3 i j k f env = (f env).bind fun svs => (match svs with
  | [a, b, c] => bnd (putM i a) fun _ => bnd (putM j b) fun _ => putM k c
  | _ => sStuck) := rfl
@[simp] theorem w_retU {f : M SV} : sRetU f env = (f env).bind fun sv => PL.ret (.ret sv) := rfl
@[simp] theorem w_retV : sRetV i env = (match env[i]? with
  | some (.val d) => .ok (.ret (.val d)) env
  | some (.own false xs) => .ok (.ret (.own false xs)) env
  | _ => .stuck) := rfl
@[simp] theorem w_retN : sRetN env = .ok (.ret (.val .non)) env := rfl
@[simp] theorem w_expr {f : M D} : sExpr f env = (f env).bind fun _ => PL.ret .next := rfl
@[simp] theorem w_for {f : M (List D)} {t : Tg} {b : M O} : sFor f t b env = (f env).bind fun ds => forL t b ds := rfl
@[simp] theorem w_iSeq {f : M D} : iSeq f env = (f env).bind fun d => lif (itemsOf d) := rfl
@[simp] theorem w_iRng {g : List D → Option (List D)} {f : M (List D)} : iRng g f env = (f env).bind fun as => lif (g as) := rfl
@[simp] theorem w_chk : chk j env = (if isOwn env[j]? then .ok () env else .stuck) := rfl
theorem try_ok {i : Nat} {met : Ex → Option D} {b : M O} {o : O} (h : b env = .ok o env1) : sTry i met b env = .ok o env1 := by unfold sTry; rw [h]
theorem try_x {i : Nat} {met : Ex → Option D} {b : M O} {x : Ex} {d : D} (h : b env = .exc x env1) (hm : met x = some d) (hi : i < env1.length) : sTry i met b env = .ok (.ret (.val d)) env1 := by unfold sTry; rw [h]; simp only [hm]; rw [if_pos hi]
@[simp] theorem w_setIx {f g : M D} : sSetIx j f g env = (g env).bind fun d => bnd (chk j) fun _ => bnd f fun k => setIx j k d := rfl
@[simp] theorem w_setix {m : Int} : setIx j (.int m) d env = (match env[j]? with
  | some (.own io xs) => (match ixN xs.length m with
    | some n => .ok .next (env.set j (.own io (xs.set n d)))
    | none => .stuck)
  | _ => .stuck) := by
  unfold setIx
  cases h : env[j]? with
  | none => rfl
  | some s => cases s <;> rfl
@[simp] theorem w_app {f : M D} : sApp j f env = (chk j env).bind fun _ => bnd f fun d => pushO j d := rfl
@[simp] theorem w_stuckO : sStuck env = .stuck := rfl
@[simp] theorem w_asgN : asg (.nm i) d env = (if i < env.length then some (env.set i (.val d)) else none) := by simp [asg]
@[simp] theorem w_asgT {ts : List Tg} {ds : List D} : asg (.tp ts) (.tup ds) env = asgL ts ds env := by simp [asg]
@[simp] theorem w_asgL0 : asgL [] [] env = some env := by simp [asgL]
@[simp] theorem w_asgL1 {t : Tg} {ts : List Tg} {ds : List D} : asgL (t :: ts) (d :: ds) env = (match asg t d env with
  | some env1 => asgL ts ds env1
  | none => none) := by
  rw [asgL] <;> rfl
@[simp] theorem w_finR {svs : List SV} {sv : SV} : finF svs (.ok (.ret sv) e1) = (match outsOf svs e1 with
  | some outs => .ok sv outs
  | none => .stuck) := rfl
@[simp] theorem w_finN {svs : List SV} : finF svs (.ok .next e1) = (match outsOf svs e1 with
  | some outs => .ok (.val .non) outs
  | none => .stuck) := rfl
@[simp] theorem w_outs0 {e : Env} : outsOf [] e = some [] := rfl
@[simp] theorem w_outsV {r : List SV} {s : SV} {e : Env} : outsOf (.val d :: r) (s :: e) = (outsOf r e).map (SV.none :: ·) := rfl
@[simp] theorem w_outsO {r : List SV} {io : Bool} {xs ys : List D} {e : Env} : outsOf (.own io xs :: r) (.own true ys :: e) = (outsOf r e).map (SV.own true ys :: ·) := rfl
/-! data -/
@[simp] theorem w_add {x y : Int} : gAdd (.int x) (.int y) = some (.int (x + y)) := rfl
@[simp] theorem w_addL {x y : List D} : gAdd (.lst x) (.lst y) = (if fits (x.length + y.length) then some (.lst (x ++ y)) else none) := rfl
@[simp] theorem w_sub {x y : Int} : gSub (.int x) (.int y) = some (.int (x - y)) := rfl
@[simp] theorem w_mul {x y : Int} : gMulI (.int x) (.int y) = (if mulOk x y then some (.int (x * y)) else none) := rfl
@[simp] theorem w_fdiv {x y : Int} : gFdiv (.int x) (.int y) = (if decide (0 < y) && decide (y.natAbs.log2 < 9000) then some (.int (x / y)) else if decide (y < 0) && decide (y.natAbs.log2 < 9000) then some (.int (x.fdiv y)) else none) := rfl
@[simp] theorem w_mod {x y : Int} : gMod (.int x) (.int y) = (if decide (0 < y) then some (.int (x % y)) else none) := rfl
@[simp] theorem w_pow {x y : Int} : gPow (.int x) (.int y) = (if decide (0 ≤ y) && decide (y ≤ 1000000) && decide (x.natAbs < 2 ^ 64) then some (.int (x ^ y.toNat)) else none) := rfl
@[simp] theorem w_neg {x : Int} : gNeg (.int x) = some (.int (-x)) := rfl
@[simp] theorem w_eqI {x y : Int} : gEq (.int x) (.int y) = some (.bl (decide (x = y))) := rfl
@[simp] theorem w_neI {x y : Int} : gNe (.int x) (.int y) = some (.bl (!decide (x = y))) := rfl
@[simp] theorem w_eqS {x y : PySem.Str} : gEq (.str x) (.str y) = some (.bl (decide (x = y))) := rfl
@[simp] theorem w_neS {x y : PySem.Str} : gNe (.str x) (.str y) = some (.bl (!decide (x = y))) := rfl
@[simp] theorem w_lt {x y : Int} : gLt (.int x) (.int y) = some (.bl (decide (x < y))) := rfl
@[simp] theorem w_le {x y : Int} : gLe (.int x) (.int y) = some (.bl (decide (x ≤ y))) := rfl
@[simp] theorem w_gt {x y : Int} : gGt (.int x) (.int y) = some (.bl (decide (y < x))) := rfl
@[simp] theorem w_ge {x y : Int} : gGe (.int x) (.int y) = some (.bl (decide (y ≤ x))) := rfl
@[simp] theorem w_isN {d : D} : gIsN d .non = some (.bl (isNon d)) := by cases d <;> rfl
@[simp] theorem w_notN {d : D} : gNotN d .non = some (.bl (!isNon d)) := by cases d <;> rfl
@[simp] theorem w_isNon1 : isNon .non = true := rfl
@[simp] theorem w_isNon2 {x : Int} : isNon (.int x) = false := rfl
@[simp] theorem w_ixL {xs : List D} {x : Int} : gIx (.lst xs) (.int x) = atI xs x := rfl
@[simp] theorem w_ixT {xs : List D} {x : Int} : gIx (.tup xs) (.int x) = atI xs x := rfl
@[simp] theorem w_ixR {xs : List D} {x : Int} : gIx (.rol xs) (.int x) = atI xs x := rfl
@[simp] theorem w_at0 {x : D} {xs : List D} : atI (x :: xs) 0 = some x := atI_nat (j := 0) rfl
@[simp] theorem w_at1 {x y : D} {xs : List D} : atI (x :: y :: xs) 1 = some y := atI_nat (j := 1) rfl
@[simp] theorem w_at2 {x y z : D} {xs : List D} : atI (x :: y :: z :: xs) 2 = some z := atI_nat (j := 2) rfl
@[simp] theorem w_asB {x : Bool} : asB (.bl x) = some x := rfl
@[simp] theorem w_truB {x : Bool} : dTru (.bl x) = some x := rfl
@[simp] theorem w_truI {x : Int} : dTru (.int x) = some (x != 0) := rfl
@[simp] theorem w_gInt {x : Int} : gInt [.int x] = some (.int x) := rfl
@[simp] theorem w_gIntB {x : Bool} : gInt [.bl x] = some (.int (if x then 1 else 0)) := rfl
@[simp] theorem w_gAbs {x : Int} : gAbs [.int x] = some (.int (if x < 0 then -x else x)) := rfl
@[simp] theorem w_lenT {xs : List D} : gLen [.tup xs] = some (.int xs.length) := rfl
@[simp] theorem w_lenL {xs : List D} : gLen [.lst xs] = some (.int xs.length) := rfl
@[simp] theorem w_lenR {xs : List D} : gLen [.rol xs] = some (.int xs.length) := rfl
@[simp] theorem w_max2 {x y : Int} : gMax [.int x, .int y] = some (.int (if y > x then y else x)) := rfl
@[simp] theorem w_min2 {x y : Int} : gMin [.int x, .int y] = some (.int (if y < x then y else x)) := rfl
@[simp] theorem w_tupL {xs : List D} : gTuple [.lst xs] = some (.tup xs) := rfl
@[simp] theorem w_tupT {xs : List D} : gTuple [.tup xs] = some (.tup xs) := rfl
@[simp] theorem w_itL {xs : List D} : itemsOf (.lst xs) = some xs := rfl
@[simp] theorem w_itT {xs : List D} : itemsOf (.tup xs) = some xs := rfl
@[simp] theorem w_itR {xs : List D} : itemsOf (.rol xs) = some xs := rfl
@[simp] theorem w_own1 {io : Bool} {xs : List D} : isOwn (some (.own io xs)) = true := rfl
@[simp] theorem w_sv1 {d : D} : svsOf env [] = some [] := rfl
@[simp] theorem w_sv2 {as : List AV} : svsOf env (.val d :: as) = (svsOf env as).map (SV.val d :: ·) := by
  simp only [svsOf, avSV]
  cases svsOf env as <;> rfl
@[simp] theorem w_sv3 {as : List AV} : svsOf env (.ref i :: as) = (match env[i]? with
  | some (.own _ xs) => (svsOf env as).map (SV.own true xs :: ·)
  | _ => none) := by
  simp only [svsOf, avSV]
  cases h : env[i]? with
  | none => rfl
  | some s => cases s <;> (cases svsOf env as <;> rfl)
@[simp] theorem w_br0 {outs : List SV} : bring env [] outs = env := by cases outs <;> rfl
@[simp] theorem w_brV {as : List AV} {s : SV} {outs : List SV} : bring env (.val d :: as) (s :: outs) = bring env as outs := rfl
@[simp] theorem w_brR {as : List AV} {io : Bool} {xs : List D} {outs : List SV} : bring env (.ref i :: as) (.own io xs :: outs) = (match env[i]? with
  | some (.own io _) => env.set i (.own io xs)
  | _ => env) := rfl
@[simp] theorem w_one0 : oneRef [] = true := rfl
@[simp] theorem w_oneV {as : List AV} : oneRef (.val d :: as) = oneRef as := rfl
@[simp] theorem w_oneR {as : List AV} : oneRef (.ref i :: as) = as.all fun a => !isRef a := rfl
@[simp] theorem w_refV : isRef (.val d) = false := rfl
@[simp] theorem w_asVal : asVal (.val d) = some d := rfl
@[simp] theorem w_asValO {io : Bool} {xs : List D} : asVal (.own io xs) = some (.lst xs) := rfl
@[simp] theorem w_asU : asU (.val d) = some (.val d) := rfl
@[simp] theorem w_asUO {io : Bool} {xs : List D} : asU (.own io xs) = some (.own false xs) := rfl
@[simp] theorem w_scal : scalO (some d) = if scal d then some d else none := rfl
@[simp] theorem w_scal1 {x : Bool} : scal (.bl x) = true := rfl
@[simp] theorem w_scal2 {x : Int} : scal (.int x) = true := rfl
theorem mulOk_l {x y : Int} (h : x.natAbs < 2 ^ 64) : mulOk x y = true := by unfold mulOk; simp [h]
theorem mulOk_r {x y : Int} (h : y.natAbs < 2 ^ 64) : mulOk x y = true := by unfold mulOk; simp [h]
theorem fits_of {n : Nat} (h : n ≤ 16777216) : fits n = true := decide_eq_true h
end
end PL

set_option maxHeartbeats 0
namespace LW
open PySem PySem.Spec PyProof.Rows L2 PL
def top (i : Nat) : Stmt := PySem.Challenge.pw_seatsdue_k52_whole_spans_of_seats.main.body.getD i (.Pass ⟨0, 0, 0, 0⟩)
def tab0 : List (Str × GI) := ("len", .blt .len) :: ("abs", .blt .abs) :: ("int", .blt .int) :: ("max", .blt .max) :: ("min", .blt .min) :: ("sum", .blt .sum) :: ("tuple", .blt .tuple) :: ("isinstance", .blt .isinstance) :: ("range", .blt .range) :: ("bool", .blt .bool) :: ("str", .blt .str) :: ("repr", .blt .repr) :: ("FAR", .cst (.int (1000000000000000000000000000000000000000000000000000000000000))) :: ("PAIR_SIZE", .cst (.int (2))) :: ("UP", .cst (.tup [(.str "up")])) :: ("HARMONIC", .cst (.tup [(.str "harmonic")])) :: ("GEOMETRIC", .cst (.tup [(.str "geometric")])) :: ("MOST_STEP", .cst (.int (1000))) :: ("STEP", .cst (.str "step")) :: ("LEAST_PARTIES", .cst (.int (2))) :: ("MOST_PARTIES", .cst (.int (10))) :: ("MOST_HOUSE", .cst (.int (200))) :: ("MOST_BOTTOM", .cst (.int (1000000))) :: ("NONE", .cst (.str "none")) :: ("SeatError", .exc none) :: ("InvalidWay", .exc none) :: ("InvalidOperation", .exc none) :: ("InvalidNumber", .exc (some "value")) :: ("Refused", .exc (some "reason")) :: []
def xms : List ((Str × Str) × Bool) := (("SeatError", "Refused"), false) :: (("InvalidWay", "Refused"), false) :: (("InvalidOperation", "Refused"), false) :: (("InvalidNumber", "Refused"), false) :: (("Refused", "Refused"), true) :: []
def fu : Nat := 1000000
def G0 : Gm := ⟨tab0, fu, xms⟩
def N_is_whole : List Str := ["value"]
def P_is_whole : List Str := ["value"]
def F_is_whole : Fn := mkF G0 40 N_is_whole (defScope (top 9)) false (defBody (top 9))
def G1 : Gm := ⟨("is_whole", .fn 1 [false] F_is_whole) :: G0.tab, fu, xms⟩
def N_is_near : List Str := ["value"]
def P_is_near : List Str := ["value"]
def F_is_near : Fn := mkF G1 40 N_is_near (defScope (top 10)) false (defBody (top 10))
def G2 : Gm := ⟨("is_near", .fn 1 [false] F_is_near) :: G1.tab, fu, xms⟩
def N_is_pair : List Str := ["value"]
def P_is_pair : List Str := ["value"]
def F_is_pair : Fn := mkF G2 40 N_is_pair (defScope (top 11)) false (defBody (top 11))
def G3 : Gm := ⟨("is_pair", .fn 1 [false] F_is_pair) :: G2.tab, fu, xms⟩
def N_require_number : List Str := ["value", "least", "most"]
def P_require_number : List Str := ["value", "least", "most"]
def F_require_number : Fn := mkF G3 40 N_require_number (defScope (top 12)) false (defBody (top 12))
def G4 : Gm := ⟨("require_number", .fn 3 [false, false, false] F_require_number) :: G3.tab, fu, xms⟩
def N_common_divisor : List Str := ["one", "other", "left", "right"]
def P_common_divisor : List Str := ["one", "other"]
def F_common_divisor : Fn := mkF G4 40 N_common_divisor (defScope (top 13)) false (defBody (top 13))
def G5 : Gm := ⟨("common_divisor", .fn 2 [false, false] F_common_divisor) :: G4.tab, fu, xms⟩
def N_fraction : List Str := ["top", "bottom", "shared"]
def P_fraction : List Str := ["top", "bottom"]
def F_fraction : Fn := mkF G5 40 N_fraction (defScope (top 14)) false (defBody (top 14))
def G6 : Gm := ⟨("fraction", .fn 2 [false, false] F_fraction) :: G5.tab, fu, xms⟩
def N_plus : List Str := ["one", "other"]
def P_plus : List Str := ["one", "other"]
def F_plus : Fn := mkF G6 40 N_plus (defScope (top 15)) false (defBody (top 15))
def G7 : Gm := ⟨("plus", .fn 2 [false, false] F_plus) :: G6.tab, fu, xms⟩
def N_minus : List Str := ["one", "other"]
def P_minus : List Str := ["one", "other"]
def F_minus : Fn := mkF G7 40 N_minus (defScope (top 16)) false (defBody (top 16))
def G8 : Gm := ⟨("minus", .fn 2 [false, false] F_minus) :: G7.tab, fu, xms⟩
def N_times : List Str := ["one", "other"]
def P_times : List Str := ["one", "other"]
def F_times : Fn := mkF G8 40 N_times (defScope (top 17)) false (defBody (top 17))
def G9 : Gm := ⟨("times", .fn 2 [false, false] F_times) :: G8.tab, fu, xms⟩
def N_is_less : List Str := ["one", "other"]
def P_is_less : List Str := ["one", "other"]
def F_is_less : Fn := mkF G9 40 N_is_less (defScope (top 18)) false (defBody (top 18))
def G10 : Gm := ⟨("is_less", .fn 2 [false, false] F_is_less) :: G9.tab, fu, xms⟩
def N_is_at_most : List Str := ["one", "other"]
def P_is_at_most : List Str := ["one", "other"]
def F_is_at_most : Fn := mkF G10 40 N_is_at_most (defScope (top 19)) false (defBody (top 19))
def G11 : Gm := ⟨("is_at_most", .fn 2 [false, false] F_is_at_most) :: G10.tab, fu, xms⟩
def N_is_fraction : List Str := ["value"]
def P_is_fraction : List Str := ["value"]
def F_is_fraction : Fn := mkF G11 40 N_is_fraction (defScope (top 20)) false (defBody (top 20))
def G12 : Gm := ⟨("is_fraction", .fn 1 [false] F_is_fraction) :: G11.tab, fu, xms⟩
def N_is_near_fraction : List Str := ["value"]
def P_is_near_fraction : List Str := ["value"]
def F_is_near_fraction : Fn := mkF G12 40 N_is_near_fraction (defScope (top 21)) false (defBody (top 21))
def G13 : Gm := ⟨("is_near_fraction", .fn 1 [false] F_is_near_fraction) :: G12.tab, fu, xms⟩
def N_quotient : List Str := ["one", "other"]
def P_quotient : List Str := ["one", "other"]
def F_quotient : Fn := mkF G13 40 N_quotient (defScope (top 22)) false (defBody (top 22))
def G14 : Gm := ⟨("quotient", .fn 2 [false, false] F_quotient) :: G13.tab, fu, xms⟩
def N_is_step_in : List Str := ["value"]
def P_is_step_in : List Str := ["value"]
def F_is_step_in : Fn := mkF G14 40 N_is_step_in (defScope (top 29)) false (defBody (top 29))
def G15 : Gm := ⟨("is_step_in", .fn 1 [false] F_is_step_in) :: G14.tab, fu, xms⟩
def N_is_way_in : List Str := ["value"]
def P_is_way_in : List Str := ["value"]
def F_is_way_in : Fn := mkF G15 40 N_is_way_in (defScope (top 30)) false (defBody (top 30))
def G16 : Gm := ⟨("is_way_in", .fn 1 [false] F_is_way_in) :: G15.tab, fu, xms⟩
def N_has_nought_in : List Str := ["way"]
def P_has_nought_in : List Str := ["way"]
def F_has_nought_in : Fn := mkF G16 40 N_has_nought_in (defScope (top 31)) false (defBody (top 31))
def G17 : Gm := ⟨("has_nought_in", .fn 1 [false] F_has_nought_in) :: G16.tab, fu, xms⟩
def N_require_way : List Str := ["value"]
def P_require_way : List Str := ["value"]
def F_require_way : Fn := mkF G17 40 N_require_way (defScope (top 32)) false (defBody (top 32))
def G18 : Gm := ⟨("require_way", .fn 1 [false] F_require_way) :: G17.tab, fu, xms⟩
def N_possible_in : List Str := ["r", "n", "house", "a", "first"]
def P_possible_in : List Str := ["r", "n", "house", "a"]
def F_possible_in : Fn := mkF G18 40 N_possible_in (defScope (top 39)) false (defBody (top 39))
def G19 : Gm := ⟨("possible_in", .fn 4 [false, false, false, false] F_possible_in) :: G18.tab, fu, xms⟩
def N_with_seats : List Str := ["n", "house", "a"]
def P_with_seats : List Str := ["n", "house", "a"]
def F_with_seats : Fn := mkF G19 40 N_with_seats (defScope (top 40)) false (defBody (top 40))
def G20 : Gm := ⟨("with_seats", .fn 3 [false, false, false] F_with_seats) :: G19.tab, fu, xms⟩
def N_sure_in : List Str := ["r", "n", "house", "a", "first", "others"]
def P_sure_in : List Str := ["r", "n", "house", "a"]
def F_sure_in : Fn := mkF G20 40 N_sure_in (defScope (top 41)) false (defBody (top 41))
def G21 : Gm := ⟨("sure_in", .fn 4 [false, false, false, false] F_sure_in) :: G20.tab, fu, xms⟩
def N_is_sure : List Str := ["r", "n", "house", "a", "part", "bound"]
def P_is_sure : List Str := ["r", "n", "house", "a", "part"]
def F_is_sure : Fn := mkF G21 40 N_is_sure (defScope (top 43)) false (defBody (top 43))
def G22 : Gm := ⟨("is_sure", .fn 5 [false, false, false, false, false] F_is_sure) :: G21.tab, fu, xms⟩
def N_span_by : List Str := ["r", "n", "house", "part", "most", "least", "a"]
def P_span_by : List Str := ["r", "n", "house", "part"]
def F_span_by : Fn := mkF G22 40 N_span_by (defScope (top 42)) false (defBody (top 42))
def G23 : Gm := ⟨("span_by", .fn 4 [false, false, false, false] F_span_by) :: G22.tab, fu, xms⟩
def N_require_step_way : List Str := ["value"]
def P_require_step_way : List Str := ["value"]
def F_require_step_way : Fn := mkF G23 40 N_require_step_way (defScope (top 44)) false (defBody (top 44))
def G24 : Gm := ⟨("require_step_way", .fn 1 [false] F_require_step_way) :: G23.tab, fu, xms⟩
def N_require_part : List Str := ["value"]
def P_require_part : List Str := ["value"]
def F_require_part : Fn := mkF G24 40 N_require_part (defScope (top 45)) false (defBody (top 45))
def G25 : Gm := ⟨("require_part", .fn 1 [false] F_require_part) :: G24.tab, fu, xms⟩
def N_seats_span : List Str := ["way", "n", "house", "part"]
def P_seats_span : List Str := ["way", "n", "house", "part"]
def F_seats_span : Fn := mkF G25 40 N_seats_span (defScope (top 46)) false (defBody (top 46))
def G26 : Gm := ⟨("seats_span", .fn 4 [false, false, false, false] F_seats_span) :: G25.tab, fu, xms⟩
def N_house_from : List Str := ["way", "n", "part", "a", "house"]
def P_house_from : List Str := ["way", "n", "part", "a"]
def F_house_from : Fn := mkF G26 40 N_house_from (defScope (top 47)) false (defBody (top 47))
def G27 : Gm := ⟨("house_from", .fn 4 [false, false, false, false] F_house_from) :: G26.tab, fu, xms⟩
def N__law_dice : List Str := ["script", "spot", "cell", "left"]
def P__law_dice : List Str := ["script", "spot"]
def F__law_dice : Fn := mkF G27 40 N__law_dice (defScope (top 49)) false (defBody (top 49))
def G28 : Gm := ⟨("_law_dice", .fn 2 [false, false] F__law_dice) :: G27.tab, fu, xms⟩
def N__law_roll : List Str := ["dice", "total", "one", "two", "found"]
def P__law_roll : List Str := ["dice", "total"]
def F__law_roll : Fn := mkF G28 40 N__law_roll (defScope (top 50)) false (defBody (top 50))
def G29 : Gm := ⟨("_law_roll", .fn 2 [true, false] F__law_roll) :: G28.tab, fu, xms⟩
def N__law_pick : List Str := ["dice", "items"]
def P__law_pick : List Str := ["dice", "items"]
def F__law_pick : Fn := mkF G29 40 N__law_pick (defScope (top 51)) false (defBody (top 51))
def G30 : Gm := ⟨("_law_pick", .fn 2 [true, false] F__law_pick) :: G29.tab, fu, xms⟩
def N__law_divisor : List Str := ["one", "other"]
def P__law_divisor : List Str := ["one", "other"]
def F__law_divisor : Fn := mkF G30 40 N__law_divisor (defScope (top 52)) false (defBody (top 52))
def G31 : Gm := ⟨("_law_divisor", .fn 2 [false, false] F__law_divisor) :: G30.tab, fu, xms⟩
def N__law_fraction : List Str := ["top", "bottom", "shared"]
def P__law_fraction : List Str := ["top", "bottom"]
def F__law_fraction : Fn := mkF G31 40 N__law_fraction (defScope (top 53)) false (defBody (top 53))
def G32 : Gm := ⟨("_law_fraction", .fn 2 [false, false] F__law_fraction) :: G31.tab, fu, xms⟩
def N__law_fr_less : List Str := ["one", "other"]
def P__law_fr_less : List Str := ["one", "other"]
def F__law_fr_less : Fn := mkF G32 40 N__law_fr_less (defScope (top 54)) false (defBody (top 54))
def G33 : Gm := ⟨("_law_fr_less", .fn 2 [false, false] F__law_fr_less) :: G32.tab, fu, xms⟩
def N__law_votes : List Str := ["dice", "most", "n", "way", "k", "party"]
def P__law_votes : List Str := ["dice", "most"]
def F__law_votes : Fn := mkF G33 40 N__law_votes (defScope (top 55)) false (defBody (top 55))
def G34 : Gm := ⟨("_law_votes", .fn 2 [true, false] F__law_votes) :: G33.tab, fu, xms⟩
def N__law_step_way : List Str := ["dice", "r", "bottom"]
def P__law_step_way : List Str := ["dice"]
def F__law_step_way : Fn := mkF G34 40 N__law_step_way (defScope (top 56)) false (defBody (top 56))
def G35 : Gm := ⟨("_law_step_way", .fn 1 [true] F__law_step_way) :: G34.tab, fu, xms⟩
def N__law_square : List Str := ["way", "k", "top", "bottom"]
def P__law_square : List Str := ["way", "k"]
def F__law_square : Fn := mkF G35 40 N__law_square (defScope (top 57)) false (defBody (top 57))
def G36 : Gm := ⟨("_law_square", .fn 2 [false, false] F__law_square) :: G35.tab, fu, xms⟩
def N__law_compared : List Str := ["way", "v", "a", "w", "b", "one", "other", "left", "right"]
def P__law_compared : List Str := ["way", "v", "a", "w", "b"]
def F__law_compared : Fn := mkF G36 40 N__law_compared (defScope (top 58)) false (defBody (top 58))
def G37 : Gm := ⟨("_law_compared", .fn 5 [false, false, false, false, false] F__law_compared) :: G36.tab, fu, xms⟩
def N__law_sh_beyond : List Str := ["way", "votes", "a", "least", "found", "v", "k"]
def P__law_sh_beyond : List Str := ["way", "votes", "a", "least"]
def F__law_sh_beyond : Fn := mkF G37 40 N__law_sh_beyond (defScope (top 59)) false (defBody (top 59))
def G38 : Gm := ⟨("_law_sh_beyond", .fn 4 [false, false, false, false] F__law_sh_beyond) :: G37.tab, fu, xms⟩
def N__law_sh_can : List Str := ["way", "house", "a", "votes"]
def P__law_sh_can : List Str := ["way", "house", "a", "votes"]
def F__law_sh_can : Fn := mkF G38 40 N__law_sh_can (defScope (top 60)) false (defBody (top 60))
def G39 : Gm := ⟨("_law_sh_can", .fn 4 [false, false, false, false] F__law_sh_can) :: G38.tab, fu, xms⟩
def N__law_sh_sure : List Str := ["way", "house", "a", "votes"]
def P__law_sh_sure : List Str := ["way", "house", "a", "votes"]
def F__law_sh_sure : Fn := mkF G39 40 N__law_sh_sure (defScope (top 61)) false (defBody (top 61))
def G40 : Gm := ⟨("_law_sh_sure", .fn 4 [false, false, false, false] F__law_sh_sure) :: G39.tab, fu, xms⟩
def N__law_sh_possible : List Str := ["r", "n", "house", "a"]
def P__law_sh_possible : List Str := ["r", "n", "house", "a"]
def F__law_sh_possible : Fn := mkF G40 40 N__law_sh_possible (defScope (top 62)) false (defBody (top 62))
def G41 : Gm := ⟨("_law_sh_possible", .fn 4 [false, false, false, false] F__law_sh_possible) :: G40.tab, fu, xms⟩
def N__law_sh_bound : List Str := ["r", "n", "house", "a", "m"]
def P__law_sh_bound : List Str := ["r", "n", "house", "a"]
def F__law_sh_bound : Fn := mkF G41 40 N__law_sh_bound (defScope (top 63)) false (defBody (top 63))
def G42 : Gm := ⟨("_law_sh_bound", .fn 4 [false, false, false, false] F__law_sh_bound) :: G41.tab, fu, xms⟩
def N__law_sh_is_sure : List Str := ["r", "n", "house", "a", "part", "bound"]
def P__law_sh_is_sure : List Str := ["r", "n", "house", "a", "part"]
def F__law_sh_is_sure : Fn := mkF G42 40 N__law_sh_is_sure (defScope (top 64)) false (defBody (top 64))
def G43 : Gm := ⟨("_law_sh_is_sure", .fn 5 [false, false, false, false, false] F__law_sh_is_sure) :: G42.tab, fu, xms⟩
def N__law_met : List Str := ["way", "n", "part", "a", "error"]
def P__law_met : List Str := ["way", "n", "part", "a"]
def F__law_met : Fn := mkF G43 40 N__law_met (defScope (top 65)) false (defBody (top 65))
def G44 : Gm := ⟨("_law_met", .fn 4 [false, false, false, false] F__law_met) :: G43.tab, fu, xms⟩
def N__law_seat_span : List Str := ["r", "n", "house", "part", "can", "sure", "a"]
def P__law_seat_span : List Str := ["r", "n", "house", "part"]
def F__law_seat_span : Fn := mkF G44 40 N__law_seat_span (defScope (top 66)) false (defBody (top 66))
def G45 : Gm := ⟨("_law_seat_span", .fn 4 [false, false, false, false] F__law_seat_span) :: G44.tab, fu, xms⟩
def N__law_right : List Str := ["dice", "house", "bottom", "part", "others", "total", "scale", "a", "houses", "way", "n", "some", "low", "high", "votes", "h", "one"]
def P__law_right : List Str := ["dice"]
def F__law_right : Fn := mkF G45 40 N__law_right (defScope (top 67)) false (defBody (top 67))
def G46 : Gm := ⟨("_law_right", .fn 1 [true] F__law_right) :: G45.tab, fu, xms⟩
def N_law : List Str := ["script", "spot", "told", "dice", "turn", "middle", "down"]
def P_law : List Str := ["script"]
def F_law : Fn := mkF G46 40 N_law (defScope (top 68)) false (defBody (top 68))
def G47 : Gm := ⟨("law", .fn 1 [false] F_law) :: G46.tab, fu, xms⟩
def d_is_whole : He.DefD := ⟨("is_whole", none), "is_whole", "is_whole", defArgs (top 9), defBody (top 9), defScope (top 9), [], []⟩
def d_is_near : He.DefD := ⟨("is_near", none), "is_near", "is_near", defArgs (top 10), defBody (top 10), defScope (top 10), [], []⟩
def d_is_pair : He.DefD := ⟨("is_pair", none), "is_pair", "is_pair", defArgs (top 11), defBody (top 11), defScope (top 11), [], []⟩
def d_require_number : He.DefD := ⟨("require_number", none), "require_number", "require_number", defArgs (top 12), defBody (top 12), defScope (top 12), [], []⟩
def d_common_divisor : He.DefD := ⟨("common_divisor", none), "common_divisor", "common_divisor", defArgs (top 13), defBody (top 13), defScope (top 13), [], []⟩
def d_fraction : He.DefD := ⟨("fraction", none), "fraction", "fraction", defArgs (top 14), defBody (top 14), defScope (top 14), [], []⟩
def d_plus : He.DefD := ⟨("plus", none), "plus", "plus", defArgs (top 15), defBody (top 15), defScope (top 15), [], []⟩
def d_minus : He.DefD := ⟨("minus", none), "minus", "minus", defArgs (top 16), defBody (top 16), defScope (top 16), [], []⟩
def d_times : He.DefD := ⟨("times", none), "times", "times", defArgs (top 17), defBody (top 17), defScope (top 17), [], []⟩
def d_is_less : He.DefD := ⟨("is_less", none), "is_less", "is_less", defArgs (top 18), defBody (top 18), defScope (top 18), [], []⟩
def d_is_at_most : He.DefD := ⟨("is_at_most", none), "is_at_most", "is_at_most", defArgs (top 19), defBody (top 19), defScope (top 19), [], []⟩
def d_is_fraction : He.DefD := ⟨("is_fraction", none), "is_fraction", "is_fraction", defArgs (top 20), defBody (top 20), defScope (top 20), [], []⟩
def d_is_near_fraction : He.DefD := ⟨("is_near_fraction", none), "is_near_fraction", "is_near_fraction", defArgs (top 21), defBody (top 21), defScope (top 21), [], []⟩
def d_quotient : He.DefD := ⟨("quotient", none), "quotient", "quotient", defArgs (top 22), defBody (top 22), defScope (top 22), [], []⟩
def d_is_step_in : He.DefD := ⟨("is_step_in", none), "is_step_in", "is_step_in", defArgs (top 29), defBody (top 29), defScope (top 29), [], []⟩
def d_is_way_in : He.DefD := ⟨("is_way_in", none), "is_way_in", "is_way_in", defArgs (top 30), defBody (top 30), defScope (top 30), [], []⟩
def d_has_nought_in : He.DefD := ⟨("has_nought_in", none), "has_nought_in", "has_nought_in", defArgs (top 31), defBody (top 31), defScope (top 31), [], []⟩
def d_require_way : He.DefD := ⟨("require_way", none), "require_way", "require_way", defArgs (top 32), defBody (top 32), defScope (top 32), [], []⟩
def d_possible_in : He.DefD := ⟨("possible_in", none), "possible_in", "possible_in", defArgs (top 39), defBody (top 39), defScope (top 39), [], []⟩
def d_with_seats : He.DefD := ⟨("with_seats", none), "with_seats", "with_seats", defArgs (top 40), defBody (top 40), defScope (top 40), [], []⟩
def d_sure_in : He.DefD := ⟨("sure_in", none), "sure_in", "sure_in", defArgs (top 41), defBody (top 41), defScope (top 41), [], []⟩
def d_is_sure : He.DefD := ⟨("is_sure", none), "is_sure", "is_sure", defArgs (top 43), defBody (top 43), defScope (top 43), [], []⟩
def d_span_by : He.DefD := ⟨("span_by", none), "span_by", "span_by", defArgs (top 42), defBody (top 42), defScope (top 42), [], []⟩
def d_require_step_way : He.DefD := ⟨("require_step_way", none), "require_step_way", "require_step_way", defArgs (top 44), defBody (top 44), defScope (top 44), [], []⟩
def d_require_part : He.DefD := ⟨("require_part", none), "require_part", "require_part", defArgs (top 45), defBody (top 45), defScope (top 45), [], []⟩
def d_seats_span : He.DefD := ⟨("seats_span", none), "seats_span", "seats_span", defArgs (top 46), defBody (top 46), defScope (top 46), [], []⟩
def d_house_from : He.DefD := ⟨("house_from", none), "house_from", "house_from", defArgs (top 47), defBody (top 47), defScope (top 47), [], []⟩
def d__law_dice : He.DefD := ⟨("_law_dice", none), "_law_dice", "_law_dice", defArgs (top 49), defBody (top 49), defScope (top 49), [], []⟩
def d__law_roll : He.DefD := ⟨("_law_roll", none), "_law_roll", "_law_roll", defArgs (top 50), defBody (top 50), defScope (top 50), [], []⟩
def d__law_pick : He.DefD := ⟨("_law_pick", none), "_law_pick", "_law_pick", defArgs (top 51), defBody (top 51), defScope (top 51), [], []⟩
def d__law_divisor : He.DefD := ⟨("_law_divisor", none), "_law_divisor", "_law_divisor", defArgs (top 52), defBody (top 52), defScope (top 52), [], []⟩
def d__law_fraction : He.DefD := ⟨("_law_fraction", none), "_law_fraction", "_law_fraction", defArgs (top 53), defBody (top 53), defScope (top 53), [], []⟩
def d__law_fr_less : He.DefD := ⟨("_law_fr_less", none), "_law_fr_less", "_law_fr_less", defArgs (top 54), defBody (top 54), defScope (top 54), [], []⟩
def d__law_votes : He.DefD := ⟨("_law_votes", none), "_law_votes", "_law_votes", defArgs (top 55), defBody (top 55), defScope (top 55), [], []⟩
def d__law_step_way : He.DefD := ⟨("_law_step_way", none), "_law_step_way", "_law_step_way", defArgs (top 56), defBody (top 56), defScope (top 56), [], []⟩
def d__law_square : He.DefD := ⟨("_law_square", none), "_law_square", "_law_square", defArgs (top 57), defBody (top 57), defScope (top 57), [], []⟩
def d__law_compared : He.DefD := ⟨("_law_compared", none), "_law_compared", "_law_compared", defArgs (top 58), defBody (top 58), defScope (top 58), [], []⟩
def d__law_sh_beyond : He.DefD := ⟨("_law_sh_beyond", none), "_law_sh_beyond", "_law_sh_beyond", defArgs (top 59), defBody (top 59), defScope (top 59), [], []⟩
def d__law_sh_can : He.DefD := ⟨("_law_sh_can", none), "_law_sh_can", "_law_sh_can", defArgs (top 60), defBody (top 60), defScope (top 60), [], []⟩
def d__law_sh_sure : He.DefD := ⟨("_law_sh_sure", none), "_law_sh_sure", "_law_sh_sure", defArgs (top 61), defBody (top 61), defScope (top 61), [], []⟩
def d__law_sh_possible : He.DefD := ⟨("_law_sh_possible", none), "_law_sh_possible", "_law_sh_possible", defArgs (top 62), defBody (top 62), defScope (top 62), [], []⟩
def d__law_sh_bound : He.DefD := ⟨("_law_sh_bound", none), "_law_sh_bound", "_law_sh_bound", defArgs (top 63), defBody (top 63), defScope (top 63), [], []⟩
def d__law_sh_is_sure : He.DefD := ⟨("_law_sh_is_sure", none), "_law_sh_is_sure", "_law_sh_is_sure", defArgs (top 64), defBody (top 64), defScope (top 64), [], []⟩
def d__law_met : He.DefD := ⟨("_law_met", none), "_law_met", "_law_met", defArgs (top 65), defBody (top 65), defScope (top 65), [], []⟩
def d__law_seat_span : He.DefD := ⟨("_law_seat_span", none), "_law_seat_span", "_law_seat_span", defArgs (top 66), defBody (top 66), defScope (top 66), [], []⟩
def d__law_right : He.DefD := ⟨("_law_right", none), "_law_right", "_law_right", defArgs (top 67), defBody (top 67), defScope (top 67), [], []⟩
def d_law : He.DefD := ⟨("law", none), "law", "law", defArgs (top 68), defBody (top 68), defScope (top 68), [], []⟩
def fn_0 : List He.DefD := [d_is_whole, d_is_near, d_is_pair, d_require_number, d_common_divisor, d_fraction, d_plus, d_minus, d_times, d_is_less, d_is_at_most, d_is_fraction, d_is_near_fraction, d_quotient, d_is_step_in, d_is_way_in, d_has_nought_in, d_require_way, d_possible_in, d_with_seats, d_sure_in, d_is_sure, d_span_by, d_require_step_way, d_require_part, d_seats_span, d_house_from, d__law_dice, d__law_roll, d__law_pick]
def fn_1 : List He.DefD := [d__law_divisor, d__law_fraction, d__law_fr_less, d__law_votes, d__law_step_way, d__law_square, d__law_compared, d__law_sh_beyond, d__law_sh_can, d__law_sh_sure, d__law_sh_possible, d__law_sh_bound, d__law_sh_is_sure, d__law_met, d__law_seat_span, d__law_right, d_law]
def fn : List He.DefD := fn_0 ++ (fn_1)
def fa_0 : List He.Fa := [.glo "is_whole", .glo "is_near", .glo "is_pair", .glo "require_number", .glo "common_divisor", .glo "fraction", .glo "plus", .glo "minus", .glo "times", .glo "is_less", .glo "is_at_most", .glo "is_fraction", .glo "is_near_fraction", .glo "quotient", .glo "is_step_in", .glo "is_way_in", .glo "has_nought_in", .glo "require_way", .glo "possible_in", .glo "with_seats", .glo "sure_in", .glo "is_sure", .glo "span_by", .glo "require_step_way", .glo "require_part", .glo "seats_span", .glo "house_from", .glo "_law_dice", .glo "_law_roll", .glo "_law_pick"]
def fa_1 : List He.Fa := [.glo "_law_divisor", .glo "_law_fraction", .glo "_law_fr_less", .glo "_law_votes", .glo "_law_step_way", .glo "_law_square", .glo "_law_compared", .glo "_law_sh_beyond", .glo "_law_sh_can", .glo "_law_sh_sure", .glo "_law_sh_possible", .glo "_law_sh_bound", .glo "_law_sh_is_sure", .glo "_law_met", .glo "_law_seat_span", .glo "_law_right", .glo "law", .free "len", .free "abs", .free "int", .free "max", .free "min", .free "sum", .free "tuple", .free "isinstance", .free "range", .free "bool", .free "str", .free "repr", .exc "SeatError"]
def fa_2 : List He.Fa := [.glo "SeatError", .exc "InvalidWay", .glo "InvalidWay", .exc "InvalidOperation", .glo "InvalidOperation", .glo "InvalidNumber", .free "super", .glo "Refused", .exm "SeatError" "Refused" false, .exm "InvalidWay" "Refused" false, .exm "InvalidOperation" "Refused" false, .exm "InvalidNumber" "Refused" false, .exm "Refused" "Refused" true]
def fa : List He.Fa := fa_0 ++ (fa_1 ++ (fa_2))
def tf : List He.Defn := []
def exl : List (PySem.W.Frag → Bool) := (fun K => cstB K "FAR" (.int (1000000000000000000000000000000000000000000000000000000000000))) :: (fun K => cstB K "PAIR_SIZE" (.int (2))) :: (fun K => cstB K "UP" (.tup [(.str "up")])) :: (fun K => cstB K "HARMONIC" (.tup [(.str "harmonic")])) :: (fun K => cstB K "GEOMETRIC" (.tup [(.str "geometric")])) :: (fun K => cstB K "MOST_STEP" (.int (1000))) :: (fun K => cstB K "STEP" (.str "step")) :: (fun K => cstB K "LEAST_PARTIES" (.int (2))) :: (fun K => cstB K "MOST_PARTIES" (.int (10))) :: (fun K => cstB K "MOST_HOUSE" (.int (200))) :: (fun K => cstB K "MOST_BOTTOM" (.int (1000000))) :: (fun K => cstB K "NONE" (.str "none")) :: (fun K => vcB PySem.Challenge.rw_seatsdue_k52_whole_spans_of_seats.prog.main.file K .idx "InvalidNumber" "value") :: (fun K => maB K ("InvalidNumber", .raw "value")) :: (fun K => vcB PySem.Challenge.rw_seatsdue_k52_whole_spans_of_seats.prog.main.file K .ari "Refused" "reason") :: (fun K => maB K ("Refused", .raw "reason")) :: []
def ex (K : PySem.W.Frag) : Bool := exl.all fun f => f K
def flt : List (Str × Str) := [("InvalidNumber", "value"), ("Refused", "reason")]
def fls (x : Str) : Str := match flt.lookup x with | some f => f | none => ""
abbrev RR : PySem.W.OpenRow := PySem.W.OpenLaw.row PySem.Challenge.rw_seatsdue_k52_whole_spans_of_seats
def ads_0 : List Addr := [2, 3, 6, 4, 24, 37, 49, 70, 92, 102, 109, 116, 123, 130, 137, 144, 151, 158, 165, 172, 179, 186, 193, 194, 195, 196, 203, 210, 217, 224]
def ads_1 : List Addr := [231, 238, 245, 250, 257, 264, 271, 278, 285, 292, 299, 306, 313, 320, 327, 332, 339, 346, 353, 358, 365, 372, 379, 386, 393, 400, 405, 410, 417, 0]
def ads_2 : List Addr := [23, 36, 48, 69, 91, 101, 108, 115, 122, 129, 136, 143, 150, 157, 164, 171, 178, 185, 192, 202, 209, 216, 223, 230, 237, 244, 249, 256, 263, 270]
def ads_3 : List Addr := [277, 284, 291, 298, 305, 312, 319, 326, 331, 338, 345, 352, 357, 364, 371, 378, 385, 392, 399, 404, 409, 416, 22, 25, 35, 47, 67, 68, 71, 89]
def ads_4 : List Addr := [90, 93, 96, 97, 98, 99, 100, 103, 104, 105, 106, 107, 110, 111, 112, 113, 114, 117, 118, 119, 120, 121, 124, 125, 126, 127, 128, 131, 132, 133]
def ads_5 : List Addr := [134, 135, 138, 139, 140, 141, 142, 145, 146, 147, 148, 149, 152, 153, 154, 155, 156, 159, 160, 161, 162, 163, 166, 167, 168, 169, 170, 173, 174, 175]
def ads_6 : List Addr := [176, 177, 180, 181, 182, 183, 184, 187, 188, 189, 190, 191, 197, 198, 199, 200, 201, 204, 205, 206, 207, 208, 211, 212, 213, 214, 215, 218, 219, 220]
def ads_7 : List Addr := [221, 222, 225, 226, 227, 228, 229, 232, 233, 234, 235, 236, 239, 240, 241, 242, 243, 246, 247, 248, 251, 252, 253, 254, 255, 258, 259, 260, 261, 262]
def ads_8 : List Addr := [265, 266, 267, 268, 269, 272, 273, 274, 275, 276, 279, 280, 281, 282, 283, 286, 287, 288, 289, 290, 293, 294, 295, 296, 297, 300, 301, 302, 303, 304]
def ads_9 : List Addr := [307, 308, 309, 310, 311, 314, 315, 316, 317, 318, 321, 322, 323, 324, 325, 328, 329, 330, 333, 334, 335, 336, 337, 340, 341, 342, 343, 344, 347, 348]
def ads_10 : List Addr := [349, 350, 351, 354, 355, 356, 359, 360, 361, 362, 363, 366, 367, 368, 369, 370, 373, 374, 375, 376, 377, 380, 381, 382, 383, 384, 387, 388, 389, 390]
def ads_11 : List Addr := [391, 394, 395, 396, 397, 398, 401, 402, 403, 406, 407, 408, 411, 412, 413, 414, 415, 66, 55, 88, 77, 61, 62, 63, 64, 65, 83, 84, 85, 86]
def ads_12 : List Addr := [87]
def ads : List Addr := ads_0 ++ (ads_1 ++ (ads_2 ++ (ads_3 ++ (ads_4 ++ (ads_5 ++ (ads_6 ++ (ads_7 ++ (ads_8 ++ (ads_9 ++ (ads_10 ++ (ads_11 ++ (ads_12))))))))))))
abbrev hk : PySem.W.Hook := hookY ads fa fn tf ex
def ob (s : PySem.W.SharedT) : AlY := obsY ads fa fn tf ex (HandSHeadRun.getT s)
theorem ob_eq (s : PySem.W.SharedT) : ob s = hk.obs s.abs := obsY_eq (HandSHeadRun.getT_eq s)
def loo_0 : List Str := ["SeatError", "InvalidWay", "InvalidOperation", "InvalidNumber", "Refused", "is_whole", "is_near", "is_pair", "require_number", "common_divisor", "fraction", "plus", "minus", "times", "is_less", "is_at_most", "is_fraction", "is_near_fraction", "quotient", "is_step_in", "is_way_in", "has_nought_in", "require_way", "possible_in", "with_seats", "sure_in", "span_by", "is_sure", "require_step_way", "require_part"]
def loo_1 : List Str := ["seats_span", "house_from", "_law_dice", "_law_roll", "_law_pick", "_law_divisor", "_law_fraction", "_law_fr_less", "_law_votes", "_law_step_way", "_law_square", "_law_compared", "_law_sh_beyond", "_law_sh_can", "_law_sh_sure", "_law_sh_possible", "_law_sh_bound", "_law_sh_is_sure", "_law_met", "_law_seat_span", "_law_right", "FAR", "PAIR_SIZE", "UP", "HARMONIC", "GEOMETRIC", "MOST_STEP", "STEP", "LEAST_PARTIES", "MOST_PARTIES"]
def loo_2 : List Str := ["MOST_HOUSE", "MOST_BOTTOM", "NONE"]
def loo : List Str := loo_0 ++ (loo_1 ++ (loo_2))
theorem run (w : World) : HandSHeadRun.RunEq RR (PySem.W.view RR.prog [68]) hk ob 4000 loo w := by
  intro os
  kernel_rfl
theorem sc_is_whole : FnScope N_is_whole P_is_whole (defScope (top 9)) := ⟨by kernel_rfl, by kernel_rfl, by kernel_rfl, by decide +kernel, by kernel_rfl, by decide +kernel, by decide +kernel⟩
theorem sc_is_near : FnScope N_is_near P_is_near (defScope (top 10)) := ⟨by kernel_rfl, by kernel_rfl, by kernel_rfl, by decide +kernel, by kernel_rfl, by decide +kernel, by decide +kernel⟩
theorem sc_is_pair : FnScope N_is_pair P_is_pair (defScope (top 11)) := ⟨by kernel_rfl, by kernel_rfl, by kernel_rfl, by decide +kernel, by kernel_rfl, by decide +kernel, by decide +kernel⟩
theorem sc_require_number : FnScope N_require_number P_require_number (defScope (top 12)) := ⟨by kernel_rfl, by kernel_rfl, by kernel_rfl, by decide +kernel, by kernel_rfl, by decide +kernel, by decide +kernel⟩
theorem sc_common_divisor : FnScope N_common_divisor P_common_divisor (defScope (top 13)) := ⟨by kernel_rfl, by kernel_rfl, by kernel_rfl, by decide +kernel, by kernel_rfl, by decide +kernel, by decide +kernel⟩
theorem sc_fraction : FnScope N_fraction P_fraction (defScope (top 14)) := ⟨by kernel_rfl, by kernel_rfl, by kernel_rfl, by decide +kernel, by kernel_rfl, by decide +kernel, by decide +kernel⟩
theorem sc_plus : FnScope N_plus P_plus (defScope (top 15)) := ⟨by kernel_rfl, by kernel_rfl, by kernel_rfl, by decide +kernel, by kernel_rfl, by decide +kernel, by decide +kernel⟩
theorem sc_minus : FnScope N_minus P_minus (defScope (top 16)) := ⟨by kernel_rfl, by kernel_rfl, by kernel_rfl, by decide +kernel, by kernel_rfl, by decide +kernel, by decide +kernel⟩
theorem sc_times : FnScope N_times P_times (defScope (top 17)) := ⟨by kernel_rfl, by kernel_rfl, by kernel_rfl, by decide +kernel, by kernel_rfl, by decide +kernel, by decide +kernel⟩
theorem sc_is_less : FnScope N_is_less P_is_less (defScope (top 18)) := ⟨by kernel_rfl, by kernel_rfl, by kernel_rfl, by decide +kernel, by kernel_rfl, by decide +kernel, by decide +kernel⟩
theorem sc_is_at_most : FnScope N_is_at_most P_is_at_most (defScope (top 19)) := ⟨by kernel_rfl, by kernel_rfl, by kernel_rfl, by decide +kernel, by kernel_rfl, by decide +kernel, by decide +kernel⟩
theorem sc_is_fraction : FnScope N_is_fraction P_is_fraction (defScope (top 20)) := ⟨by kernel_rfl, by kernel_rfl, by kernel_rfl, by decide +kernel, by kernel_rfl, by decide +kernel, by decide +kernel⟩
theorem sc_is_near_fraction : FnScope N_is_near_fraction P_is_near_fraction (defScope (top 21)) := ⟨by kernel_rfl, by kernel_rfl, by kernel_rfl, by decide +kernel, by kernel_rfl, by decide +kernel, by decide +kernel⟩
theorem sc_quotient : FnScope N_quotient P_quotient (defScope (top 22)) := ⟨by kernel_rfl, by kernel_rfl, by kernel_rfl, by decide +kernel, by kernel_rfl, by decide +kernel, by decide +kernel⟩
theorem sc_is_step_in : FnScope N_is_step_in P_is_step_in (defScope (top 29)) := ⟨by kernel_rfl, by kernel_rfl, by kernel_rfl, by decide +kernel, by kernel_rfl, by decide +kernel, by decide +kernel⟩
theorem sc_is_way_in : FnScope N_is_way_in P_is_way_in (defScope (top 30)) := ⟨by kernel_rfl, by kernel_rfl, by kernel_rfl, by decide +kernel, by kernel_rfl, by decide +kernel, by decide +kernel⟩
theorem sc_has_nought_in : FnScope N_has_nought_in P_has_nought_in (defScope (top 31)) := ⟨by kernel_rfl, by kernel_rfl, by kernel_rfl, by decide +kernel, by kernel_rfl, by decide +kernel, by decide +kernel⟩
theorem sc_require_way : FnScope N_require_way P_require_way (defScope (top 32)) := ⟨by kernel_rfl, by kernel_rfl, by kernel_rfl, by decide +kernel, by kernel_rfl, by decide +kernel, by decide +kernel⟩
theorem sc_possible_in : FnScope N_possible_in P_possible_in (defScope (top 39)) := ⟨by kernel_rfl, by kernel_rfl, by kernel_rfl, by decide +kernel, by kernel_rfl, by decide +kernel, by decide +kernel⟩
theorem sc_with_seats : FnScope N_with_seats P_with_seats (defScope (top 40)) := ⟨by kernel_rfl, by kernel_rfl, by kernel_rfl, by decide +kernel, by kernel_rfl, by decide +kernel, by decide +kernel⟩
theorem sc_sure_in : FnScope N_sure_in P_sure_in (defScope (top 41)) := ⟨by kernel_rfl, by kernel_rfl, by kernel_rfl, by decide +kernel, by kernel_rfl, by decide +kernel, by decide +kernel⟩
theorem sc_is_sure : FnScope N_is_sure P_is_sure (defScope (top 43)) := ⟨by kernel_rfl, by kernel_rfl, by kernel_rfl, by decide +kernel, by kernel_rfl, by decide +kernel, by decide +kernel⟩
theorem sc_span_by : FnScope N_span_by P_span_by (defScope (top 42)) := ⟨by kernel_rfl, by kernel_rfl, by kernel_rfl, by decide +kernel, by kernel_rfl, by decide +kernel, by decide +kernel⟩
theorem sc_require_step_way : FnScope N_require_step_way P_require_step_way (defScope (top 44)) := ⟨by kernel_rfl, by kernel_rfl, by kernel_rfl, by decide +kernel, by kernel_rfl, by decide +kernel, by decide +kernel⟩
theorem sc_require_part : FnScope N_require_part P_require_part (defScope (top 45)) := ⟨by kernel_rfl, by kernel_rfl, by kernel_rfl, by decide +kernel, by kernel_rfl, by decide +kernel, by decide +kernel⟩
theorem sc_seats_span : FnScope N_seats_span P_seats_span (defScope (top 46)) := ⟨by kernel_rfl, by kernel_rfl, by kernel_rfl, by decide +kernel, by kernel_rfl, by decide +kernel, by decide +kernel⟩
theorem sc_house_from : FnScope N_house_from P_house_from (defScope (top 47)) := ⟨by kernel_rfl, by kernel_rfl, by kernel_rfl, by decide +kernel, by kernel_rfl, by decide +kernel, by decide +kernel⟩
theorem sc__law_dice : FnScope N__law_dice P__law_dice (defScope (top 49)) := ⟨by kernel_rfl, by kernel_rfl, by kernel_rfl, by decide +kernel, by kernel_rfl, by decide +kernel, by decide +kernel⟩
theorem sc__law_roll : FnScope N__law_roll P__law_roll (defScope (top 50)) := ⟨by kernel_rfl, by kernel_rfl, by kernel_rfl, by decide +kernel, by kernel_rfl, by decide +kernel, by decide +kernel⟩
theorem sc__law_pick : FnScope N__law_pick P__law_pick (defScope (top 51)) := ⟨by kernel_rfl, by kernel_rfl, by kernel_rfl, by decide +kernel, by kernel_rfl, by decide +kernel, by decide +kernel⟩
theorem sc__law_divisor : FnScope N__law_divisor P__law_divisor (defScope (top 52)) := ⟨by kernel_rfl, by kernel_rfl, by kernel_rfl, by decide +kernel, by kernel_rfl, by decide +kernel, by decide +kernel⟩
theorem sc__law_fraction : FnScope N__law_fraction P__law_fraction (defScope (top 53)) := ⟨by kernel_rfl, by kernel_rfl, by kernel_rfl, by decide +kernel, by kernel_rfl, by decide +kernel, by decide +kernel⟩
theorem sc__law_fr_less : FnScope N__law_fr_less P__law_fr_less (defScope (top 54)) := ⟨by kernel_rfl, by kernel_rfl, by kernel_rfl, by decide +kernel, by kernel_rfl, by decide +kernel, by decide +kernel⟩
theorem sc__law_votes : FnScope N__law_votes P__law_votes (defScope (top 55)) := ⟨by kernel_rfl, by kernel_rfl, by kernel_rfl, by decide +kernel, by kernel_rfl, by decide +kernel, by decide +kernel⟩
theorem sc__law_step_way : FnScope N__law_step_way P__law_step_way (defScope (top 56)) := ⟨by kernel_rfl, by kernel_rfl, by kernel_rfl, by decide +kernel, by kernel_rfl, by decide +kernel, by decide +kernel⟩
theorem sc__law_square : FnScope N__law_square P__law_square (defScope (top 57)) := ⟨by kernel_rfl, by kernel_rfl, by kernel_rfl, by decide +kernel, by kernel_rfl, by decide +kernel, by decide +kernel⟩
theorem sc__law_compared : FnScope N__law_compared P__law_compared (defScope (top 58)) := ⟨by kernel_rfl, by kernel_rfl, by kernel_rfl, by decide +kernel, by kernel_rfl, by decide +kernel, by decide +kernel⟩
theorem sc__law_sh_beyond : FnScope N__law_sh_beyond P__law_sh_beyond (defScope (top 59)) := ⟨by kernel_rfl, by kernel_rfl, by kernel_rfl, by decide +kernel, by kernel_rfl, by decide +kernel, by decide +kernel⟩
theorem sc__law_sh_can : FnScope N__law_sh_can P__law_sh_can (defScope (top 60)) := ⟨by kernel_rfl, by kernel_rfl, by kernel_rfl, by decide +kernel, by kernel_rfl, by decide +kernel, by decide +kernel⟩
theorem sc__law_sh_sure : FnScope N__law_sh_sure P__law_sh_sure (defScope (top 61)) := ⟨by kernel_rfl, by kernel_rfl, by kernel_rfl, by decide +kernel, by kernel_rfl, by decide +kernel, by decide +kernel⟩
theorem sc__law_sh_possible : FnScope N__law_sh_possible P__law_sh_possible (defScope (top 62)) := ⟨by kernel_rfl, by kernel_rfl, by kernel_rfl, by decide +kernel, by kernel_rfl, by decide +kernel, by decide +kernel⟩
theorem sc__law_sh_bound : FnScope N__law_sh_bound P__law_sh_bound (defScope (top 63)) := ⟨by kernel_rfl, by kernel_rfl, by kernel_rfl, by decide +kernel, by kernel_rfl, by decide +kernel, by decide +kernel⟩
theorem sc__law_sh_is_sure : FnScope N__law_sh_is_sure P__law_sh_is_sure (defScope (top 64)) := ⟨by kernel_rfl, by kernel_rfl, by kernel_rfl, by decide +kernel, by kernel_rfl, by decide +kernel, by decide +kernel⟩
theorem sc__law_met : FnScope N__law_met P__law_met (defScope (top 65)) := ⟨by kernel_rfl, by kernel_rfl, by kernel_rfl, by decide +kernel, by kernel_rfl, by decide +kernel, by decide +kernel⟩
theorem sc__law_seat_span : FnScope N__law_seat_span P__law_seat_span (defScope (top 66)) := ⟨by kernel_rfl, by kernel_rfl, by kernel_rfl, by decide +kernel, by kernel_rfl, by decide +kernel, by decide +kernel⟩
theorem sc__law_right : FnScope N__law_right P__law_right (defScope (top 67)) := ⟨by kernel_rfl, by kernel_rfl, by kernel_rfl, by decide +kernel, by kernel_rfl, by decide +kernel, by decide +kernel⟩
theorem sc_law : FnScope N_law P_law (defScope (top 68)) := ⟨by kernel_rfl, by kernel_rfl, by kernel_rfl, by decide +kernel, by kernel_rfl, by decide +kernel, by decide +kernel⟩
section
variable {w : World} {K : PySem.W.Frag} {mg : Str → Option Value} {base h : Heap}
abbrev GG (K : PySem.W.Frag) (mg : Str → Option Value) : Gx := GGf fls tf K mg
abbrev Says (h : Heap) (K : PySem.W.Frag) : Prop := SaysY fa fn tf ex h K
theorem tab_0 (X : K.In h) (G : h.Ns mainGlobals mg) (c : Says h K) : TabOk PySem.Challenge.rw_seatsdue_k52_whole_spans_of_seats.prog w (GG K mg) base 0 G0 := by
  intro X0 h1 h2 h3 x gi e
  have e : tab0.lookup x = some gi := e
  unfold tab0 at e
  refine lk_cons e (fun e1 e2 => ?_) fun e => ?_
  · subst e1 e2; exact ⟨by decide, rfl, He.free_ok X G (c.d.fact 47 (f := .free "len") rfl)⟩
  refine lk_cons e (fun e1 e2 => ?_) fun e => ?_
  · subst e1 e2; exact ⟨by decide, rfl, He.free_ok X G (c.d.fact 48 (f := .free "abs") rfl)⟩
  refine lk_cons e (fun e1 e2 => ?_) fun e => ?_
  · subst e1 e2; exact ⟨by decide, rfl, He.free_ok X G (c.d.fact 49 (f := .free "int") rfl)⟩
  refine lk_cons e (fun e1 e2 => ?_) fun e => ?_
  · subst e1 e2; exact ⟨by decide, rfl, He.free_ok X G (c.d.fact 50 (f := .free "max") rfl)⟩
  refine lk_cons e (fun e1 e2 => ?_) fun e => ?_
  · subst e1 e2; exact ⟨by decide, rfl, He.free_ok X G (c.d.fact 51 (f := .free "min") rfl)⟩
  refine lk_cons e (fun e1 e2 => ?_) fun e => ?_
  · subst e1 e2; exact ⟨by decide, rfl, He.free_ok X G (c.d.fact 52 (f := .free "sum") rfl)⟩
  refine lk_cons e (fun e1 e2 => ?_) fun e => ?_
  · subst e1 e2; exact ⟨by decide, rfl, He.free_ok X G (c.d.fact 53 (f := .free "tuple") rfl)⟩
  refine lk_cons e (fun e1 e2 => ?_) fun e => ?_
  · subst e1 e2; exact ⟨by decide, rfl, He.free_ok X G (c.d.fact 54 (f := .free "isinstance") rfl)⟩
  refine lk_cons e (fun e1 e2 => ?_) fun e => ?_
  · subst e1 e2; exact ⟨by decide, rfl, He.free_ok X G (c.d.fact 55 (f := .free "range") rfl)⟩
  refine lk_cons e (fun e1 e2 => ?_) fun e => ?_
  · subst e1 e2; exact ⟨by decide, rfl, He.free_ok X G (c.d.fact 56 (f := .free "bool") rfl)⟩
  refine lk_cons e (fun e1 e2 => ?_) fun e => ?_
  · subst e1 e2; exact ⟨by decide, rfl, He.free_ok X G (c.d.fact 57 (f := .free "str") rfl)⟩
  refine lk_cons e (fun e1 e2 => ?_) fun e => ?_
  · subst e1 e2; exact ⟨by decide, rfl, He.free_ok X G (c.d.fact 58 (f := .free "repr") rfl)⟩
  refine lk_cons e (fun e1 e2 => ?_) fun e => ?_
  · subst e1 e2; exact ⟨by decide, cst_ok (G := GG K mg) X G (exAt c.more 0 (f := fun K => cstB K "FAR" (.int (1000000000000000000000000000000000000000000000000000000000000))) rfl)⟩
  refine lk_cons e (fun e1 e2 => ?_) fun e => ?_
  · subst e1 e2; exact ⟨by decide, cst_ok (G := GG K mg) X G (exAt c.more 1 (f := fun K => cstB K "PAIR_SIZE" (.int (2))) rfl)⟩
  refine lk_cons e (fun e1 e2 => ?_) fun e => ?_
  · subst e1 e2; exact ⟨by decide, cst_ok (G := GG K mg) X G (exAt c.more 2 (f := fun K => cstB K "UP" (.tup [(.str "up")])) rfl)⟩
  refine lk_cons e (fun e1 e2 => ?_) fun e => ?_
  · subst e1 e2; exact ⟨by decide, cst_ok (G := GG K mg) X G (exAt c.more 3 (f := fun K => cstB K "HARMONIC" (.tup [(.str "harmonic")])) rfl)⟩
  refine lk_cons e (fun e1 e2 => ?_) fun e => ?_
  · subst e1 e2; exact ⟨by decide, cst_ok (G := GG K mg) X G (exAt c.more 4 (f := fun K => cstB K "GEOMETRIC" (.tup [(.str "geometric")])) rfl)⟩
  refine lk_cons e (fun e1 e2 => ?_) fun e => ?_
  · subst e1 e2; exact ⟨by decide, cst_ok (G := GG K mg) X G (exAt c.more 5 (f := fun K => cstB K "MOST_STEP" (.int (1000))) rfl)⟩
  refine lk_cons e (fun e1 e2 => ?_) fun e => ?_
  · subst e1 e2; exact ⟨by decide, cst_ok (G := GG K mg) X G (exAt c.more 6 (f := fun K => cstB K "STEP" (.str "step")) rfl)⟩
  refine lk_cons e (fun e1 e2 => ?_) fun e => ?_
  · subst e1 e2; exact ⟨by decide, cst_ok (G := GG K mg) X G (exAt c.more 7 (f := fun K => cstB K "LEAST_PARTIES" (.int (2))) rfl)⟩
  refine lk_cons e (fun e1 e2 => ?_) fun e => ?_
  · subst e1 e2; exact ⟨by decide, cst_ok (G := GG K mg) X G (exAt c.more 8 (f := fun K => cstB K "MOST_PARTIES" (.int (10))) rfl)⟩
  refine lk_cons e (fun e1 e2 => ?_) fun e => ?_
  · subst e1 e2; exact ⟨by decide, cst_ok (G := GG K mg) X G (exAt c.more 9 (f := fun K => cstB K "MOST_HOUSE" (.int (200))) rfl)⟩
  refine lk_cons e (fun e1 e2 => ?_) fun e => ?_
  · subst e1 e2; exact ⟨by decide, cst_ok (G := GG K mg) X G (exAt c.more 10 (f := fun K => cstB K "MOST_BOTTOM" (.int (1000000))) rfl)⟩
  refine lk_cons e (fun e1 e2 => ?_) fun e => ?_
  · subst e1 e2; exact ⟨by decide, cst_ok (G := GG K mg) X G (exAt c.more 11 (f := fun K => cstB K "NONE" (.str "none")) rfl)⟩
  refine lk_cons e (fun e1 e2 => ?_) fun e => ?_
  · subst e1 e2; obtain ⟨q1, q2, q3, q4⟩ := He.exc_ok (c.d.fact 59 (f := .exc "SeatError") rfl); exact ⟨by decide, _, _, _, _, _, F.excBase_ValueError, q1, He.glo_ok X G (c.d.fact 60 (f := .glo "SeatError") rfl), q2, q3, q4⟩
  refine lk_cons e (fun e1 e2 => ?_) fun e => ?_
  · subst e1 e2; obtain ⟨q1, q2, q3, q4⟩ := He.exc_ok (c.d.fact 61 (f := .exc "InvalidWay") rfl); exact ⟨by decide, _, _, _, _, _, F.excBase_ValueError, q1, He.glo_ok X G (c.d.fact 62 (f := .glo "InvalidWay") rfl), q2, q3, q4⟩
  refine lk_cons e (fun e1 e2 => ?_) fun e => ?_
  · subst e1 e2; obtain ⟨q1, q2, q3, q4⟩ := He.exc_ok (c.d.fact 63 (f := .exc "InvalidOperation") rfl); exact ⟨by decide, _, _, _, _, _, F.excBase_ValueError, q1, He.glo_ok X G (c.d.fact 64 (f := .glo "InvalidOperation") rfl), q2, q3, q4⟩
  refine lk_cons e (fun e1 e2 => ?_) fun e => ?_
  · subst e1 e2; obtain ⟨fI, cc, cda, q1, q2, q3, q4⟩ := vc_ok (prog := PySem.Challenge.rw_seatsdue_k52_whole_spans_of_seats.prog) (exAt c.more 12 (f := fun K => vcB PySem.Challenge.rw_seatsdue_k52_whole_spans_of_seats.prog.main.file K .idx "InvalidNumber" "value") rfl) (by decide +kernel); exact ⟨by decide, _, _, _, _, _, _, _, _, (h1 ▸ q1), He.glo_ok X G (c.d.fact 65 (f := .glo "InvalidNumber") rfl), q2, q3, q4, He.free_ok X G (c.d.fact 66 (f := .free "super") rfl), xf_ok (exAt c.more 13 (f := fun K => maB K ("InvalidNumber", .raw "value")) rfl), (show fls "InvalidNumber" = "value" by decide)⟩
  refine lk_cons e (fun e1 e2 => ?_) fun e => ?_
  · subst e1 e2; obtain ⟨fI, cc, cda, q1, q2, q3, q4⟩ := vc_ok (prog := PySem.Challenge.rw_seatsdue_k52_whole_spans_of_seats.prog) (exAt c.more 14 (f := fun K => vcB PySem.Challenge.rw_seatsdue_k52_whole_spans_of_seats.prog.main.file K .ari "Refused" "reason") rfl) (by decide +kernel); exact ⟨by decide, _, _, _, _, _, _, _, _, (h1 ▸ q1), He.glo_ok X G (c.d.fact 67 (f := .glo "Refused") rfl), q2, q3, q4, He.free_ok X G (c.d.fact 66 (f := .free "super") rfl), xf_ok (exAt c.more 15 (f := fun K => maB K ("Refused", .raw "reason")) rfl), (show fls "Refused" = "reason" by decide)⟩
  cases e
theorem xmok (X : K.In h) (G : h.Ns mainGlobals mg) (c : Says h K) {q : List (Str × GI)} {n : Nat} : XmOk (GG K mg) ⟨q, n, xms⟩ := by
  intro a b v e
  have e : xms.lookup (a, b) = some v := e
  unfold xms at e
  refine xm_cons e (fun e1 e2 => ?_) fun e => ?_
  · cases e1; cases e2; exact ⟨_, _, He.glo_ok X G (c.d.fact 60 (f := .glo "SeatError") rfl), He.glo_ok X G (c.d.fact 67 (f := .glo "Refused") rfl), He.exm_ok (c.d.fact 68 (f := .exm "SeatError" "Refused" false) rfl)⟩
  refine xm_cons e (fun e1 e2 => ?_) fun e => ?_
  · cases e1; cases e2; exact ⟨_, _, He.glo_ok X G (c.d.fact 62 (f := .glo "InvalidWay") rfl), He.glo_ok X G (c.d.fact 67 (f := .glo "Refused") rfl), He.exm_ok (c.d.fact 69 (f := .exm "InvalidWay" "Refused" false) rfl)⟩
  refine xm_cons e (fun e1 e2 => ?_) fun e => ?_
  · cases e1; cases e2; exact ⟨_, _, He.glo_ok X G (c.d.fact 64 (f := .glo "InvalidOperation") rfl), He.glo_ok X G (c.d.fact 67 (f := .glo "Refused") rfl), He.exm_ok (c.d.fact 70 (f := .exm "InvalidOperation" "Refused" false) rfl)⟩
  refine xm_cons e (fun e1 e2 => ?_) fun e => ?_
  · cases e1; cases e2; exact ⟨_, _, He.glo_ok X G (c.d.fact 65 (f := .glo "InvalidNumber") rfl), He.glo_ok X G (c.d.fact 67 (f := .glo "Refused") rfl), He.exm_ok (c.d.fact 71 (f := .exm "InvalidNumber" "Refused" false) rfl)⟩
  refine xm_cons e (fun e1 e2 => ?_) fun e => ?_
  · cases e1; cases e2; exact ⟨_, _, He.glo_ok X G (c.d.fact 67 (f := .glo "Refused") rfl), He.glo_ok X G (c.d.fact 67 (f := .glo "Refused") rfl), He.exm_ok (c.d.fact 72 (f := .exm "Refused" "Refused" true) rfl)⟩
  cases e
theorem tab_1 (X : K.In h) (G : h.Ns mainGlobals mg) (c : Says h K) (TB : ∀ p ∈ (GG K mg).cs, LamX.TabB base mg p.1 p.2) : TabOk PySem.Challenge.rw_seatsdue_k52_whole_spans_of_seats.prog w (GG K mg) base 1 G1 := by
  obtain ⟨fd, F⟩ := c.d.def_ 0 (d := d_is_whole) rfl
  exact tab_step (n := 40) (N := N_is_whole) (ps := P_is_whole) (lam := false) (tab_0 X G c) (xmok X G c) F (He.glo_ok X G (c.d.fact 0 (f := .glo "is_whole") rfl)) sc_is_whole (by decide +kernel) (by decide +kernel) (fun _ _ _ _ _ _ us hl => match us, hl with | [_], _ => by kernel_rfl) (j := 0) (Nat.le_refl _) (fun z => by cases z) rfl
theorem tab_2 (X : K.In h) (G : h.Ns mainGlobals mg) (c : Says h K) (TB : ∀ p ∈ (GG K mg).cs, LamX.TabB base mg p.1 p.2) : TabOk PySem.Challenge.rw_seatsdue_k52_whole_spans_of_seats.prog w (GG K mg) base 2 G2 := by
  obtain ⟨fd, F⟩ := c.d.def_ 1 (d := d_is_near) rfl
  exact tab_step (n := 40) (N := N_is_near) (ps := P_is_near) (lam := false) (tab_1 X G c TB) (xmok X G c) F (He.glo_ok X G (c.d.fact 1 (f := .glo "is_near") rfl)) sc_is_near (by decide +kernel) (by decide +kernel) (fun _ _ _ _ _ _ us hl => match us, hl with | [_], _ => by kernel_rfl) (j := 1) (Nat.le_refl _) (fun z => by cases z) rfl
theorem tab_3 (X : K.In h) (G : h.Ns mainGlobals mg) (c : Says h K) (TB : ∀ p ∈ (GG K mg).cs, LamX.TabB base mg p.1 p.2) : TabOk PySem.Challenge.rw_seatsdue_k52_whole_spans_of_seats.prog w (GG K mg) base 3 G3 := by
  obtain ⟨fd, F⟩ := c.d.def_ 2 (d := d_is_pair) rfl
  exact tab_step (n := 40) (N := N_is_pair) (ps := P_is_pair) (lam := false) (tab_2 X G c TB) (xmok X G c) F (He.glo_ok X G (c.d.fact 2 (f := .glo "is_pair") rfl)) sc_is_pair (by decide +kernel) (by decide +kernel) (fun _ _ _ _ _ _ us hl => match us, hl with | [_], _ => by kernel_rfl) (j := 2) (Nat.le_refl _) (fun z => by cases z) rfl
theorem tab_4 (X : K.In h) (G : h.Ns mainGlobals mg) (c : Says h K) (TB : ∀ p ∈ (GG K mg).cs, LamX.TabB base mg p.1 p.2) : TabOk PySem.Challenge.rw_seatsdue_k52_whole_spans_of_seats.prog w (GG K mg) base 4 G4 := by
  obtain ⟨fd, F⟩ := c.d.def_ 3 (d := d_require_number) rfl
  exact tab_step (n := 40) (N := N_require_number) (ps := P_require_number) (lam := false) (tab_3 X G c TB) (xmok X G c) F (He.glo_ok X G (c.d.fact 3 (f := .glo "require_number") rfl)) sc_require_number (by decide +kernel) (by decide +kernel) (fun _ _ _ _ _ _ us hl => match us, hl with | [_, _, _], _ => by kernel_rfl) (j := 3) (Nat.le_refl _) (fun z => by cases z) rfl
theorem tab_5 (X : K.In h) (G : h.Ns mainGlobals mg) (c : Says h K) (TB : ∀ p ∈ (GG K mg).cs, LamX.TabB base mg p.1 p.2) : TabOk PySem.Challenge.rw_seatsdue_k52_whole_spans_of_seats.prog w (GG K mg) base 5 G5 := by
  obtain ⟨fd, F⟩ := c.d.def_ 4 (d := d_common_divisor) rfl
  exact tab_step (n := 40) (N := N_common_divisor) (ps := P_common_divisor) (lam := false) (tab_4 X G c TB) (xmok X G c) F (He.glo_ok X G (c.d.fact 4 (f := .glo "common_divisor") rfl)) sc_common_divisor (by decide +kernel) (by decide +kernel) (fun _ _ _ _ _ _ us hl => match us, hl with | [_, _], _ => by kernel_rfl) (j := 4) (Nat.le_refl _) (fun z => by cases z) rfl
theorem tab_6 (X : K.In h) (G : h.Ns mainGlobals mg) (c : Says h K) (TB : ∀ p ∈ (GG K mg).cs, LamX.TabB base mg p.1 p.2) : TabOk PySem.Challenge.rw_seatsdue_k52_whole_spans_of_seats.prog w (GG K mg) base 6 G6 := by
  obtain ⟨fd, F⟩ := c.d.def_ 5 (d := d_fraction) rfl
  exact tab_step (n := 40) (N := N_fraction) (ps := P_fraction) (lam := false) (tab_5 X G c TB) (xmok X G c) F (He.glo_ok X G (c.d.fact 5 (f := .glo "fraction") rfl)) sc_fraction (by decide +kernel) (by decide +kernel) (fun _ _ _ _ _ _ us hl => match us, hl with | [_, _], _ => by kernel_rfl) (j := 5) (Nat.le_refl _) (fun z => by cases z) rfl
theorem tab_7 (X : K.In h) (G : h.Ns mainGlobals mg) (c : Says h K) (TB : ∀ p ∈ (GG K mg).cs, LamX.TabB base mg p.1 p.2) : TabOk PySem.Challenge.rw_seatsdue_k52_whole_spans_of_seats.prog w (GG K mg) base 7 G7 := by
  obtain ⟨fd, F⟩ := c.d.def_ 6 (d := d_plus) rfl
  exact tab_step (n := 40) (N := N_plus) (ps := P_plus) (lam := false) (tab_6 X G c TB) (xmok X G c) F (He.glo_ok X G (c.d.fact 6 (f := .glo "plus") rfl)) sc_plus (by decide +kernel) (by decide +kernel) (fun _ _ _ _ _ _ us hl => match us, hl with | [_, _], _ => by kernel_rfl) (j := 6) (Nat.le_refl _) (fun z => by cases z) rfl
theorem tab_8 (X : K.In h) (G : h.Ns mainGlobals mg) (c : Says h K) (TB : ∀ p ∈ (GG K mg).cs, LamX.TabB base mg p.1 p.2) : TabOk PySem.Challenge.rw_seatsdue_k52_whole_spans_of_seats.prog w (GG K mg) base 8 G8 := by
  obtain ⟨fd, F⟩ := c.d.def_ 7 (d := d_minus) rfl
  exact tab_step (n := 40) (N := N_minus) (ps := P_minus) (lam := false) (tab_7 X G c TB) (xmok X G c) F (He.glo_ok X G (c.d.fact 7 (f := .glo "minus") rfl)) sc_minus (by decide +kernel) (by decide +kernel) (fun _ _ _ _ _ _ us hl => match us, hl with | [_, _], _ => by kernel_rfl) (j := 7) (Nat.le_refl _) (fun z => by cases z) rfl
theorem tab_9 (X : K.In h) (G : h.Ns mainGlobals mg) (c : Says h K) (TB : ∀ p ∈ (GG K mg).cs, LamX.TabB base mg p.1 p.2) : TabOk PySem.Challenge.rw_seatsdue_k52_whole_spans_of_seats.prog w (GG K mg) base 9 G9 := by
  obtain ⟨fd, F⟩ := c.d.def_ 8 (d := d_times) rfl
  exact tab_step (n := 40) (N := N_times) (ps := P_times) (lam := false) (tab_8 X G c TB) (xmok X G c) F (He.glo_ok X G (c.d.fact 8 (f := .glo "times") rfl)) sc_times (by decide +kernel) (by decide +kernel) (fun _ _ _ _ _ _ us hl => match us, hl with | [_, _], _ => by kernel_rfl) (j := 8) (Nat.le_refl _) (fun z => by cases z) rfl
theorem tab_10 (X : K.In h) (G : h.Ns mainGlobals mg) (c : Says h K) (TB : ∀ p ∈ (GG K mg).cs, LamX.TabB base mg p.1 p.2) : TabOk PySem.Challenge.rw_seatsdue_k52_whole_spans_of_seats.prog w (GG K mg) base 10 G10 := by
  obtain ⟨fd, F⟩ := c.d.def_ 9 (d := d_is_less) rfl
  exact tab_step (n := 40) (N := N_is_less) (ps := P_is_less) (lam := false) (tab_9 X G c TB) (xmok X G c) F (He.glo_ok X G (c.d.fact 9 (f := .glo "is_less") rfl)) sc_is_less (by decide +kernel) (by decide +kernel) (fun _ _ _ _ _ _ us hl => match us, hl with | [_, _], _ => by kernel_rfl) (j := 9) (Nat.le_refl _) (fun z => by cases z) rfl
theorem tab_11 (X : K.In h) (G : h.Ns mainGlobals mg) (c : Says h K) (TB : ∀ p ∈ (GG K mg).cs, LamX.TabB base mg p.1 p.2) : TabOk PySem.Challenge.rw_seatsdue_k52_whole_spans_of_seats.prog w (GG K mg) base 11 G11 := by
  obtain ⟨fd, F⟩ := c.d.def_ 10 (d := d_is_at_most) rfl
  exact tab_step (n := 40) (N := N_is_at_most) (ps := P_is_at_most) (lam := false) (tab_10 X G c TB) (xmok X G c) F (He.glo_ok X G (c.d.fact 10 (f := .glo "is_at_most") rfl)) sc_is_at_most (by decide +kernel) (by decide +kernel) (fun _ _ _ _ _ _ us hl => match us, hl with | [_, _], _ => by kernel_rfl) (j := 10) (Nat.le_refl _) (fun z => by cases z) rfl
theorem tab_12 (X : K.In h) (G : h.Ns mainGlobals mg) (c : Says h K) (TB : ∀ p ∈ (GG K mg).cs, LamX.TabB base mg p.1 p.2) : TabOk PySem.Challenge.rw_seatsdue_k52_whole_spans_of_seats.prog w (GG K mg) base 12 G12 := by
  obtain ⟨fd, F⟩ := c.d.def_ 11 (d := d_is_fraction) rfl
  exact tab_step (n := 40) (N := N_is_fraction) (ps := P_is_fraction) (lam := false) (tab_11 X G c TB) (xmok X G c) F (He.glo_ok X G (c.d.fact 11 (f := .glo "is_fraction") rfl)) sc_is_fraction (by decide +kernel) (by decide +kernel) (fun _ _ _ _ _ _ us hl => match us, hl with | [_], _ => by kernel_rfl) (j := 11) (Nat.le_refl _) (fun z => by cases z) rfl
theorem tab_13 (X : K.In h) (G : h.Ns mainGlobals mg) (c : Says h K) (TB : ∀ p ∈ (GG K mg).cs, LamX.TabB base mg p.1 p.2) : TabOk PySem.Challenge.rw_seatsdue_k52_whole_spans_of_seats.prog w (GG K mg) base 13 G13 := by
  obtain ⟨fd, F⟩ := c.d.def_ 12 (d := d_is_near_fraction) rfl
  exact tab_step (n := 40) (N := N_is_near_fraction) (ps := P_is_near_fraction) (lam := false) (tab_12 X G c TB) (xmok X G c) F (He.glo_ok X G (c.d.fact 12 (f := .glo "is_near_fraction") rfl)) sc_is_near_fraction (by decide +kernel) (by decide +kernel) (fun _ _ _ _ _ _ us hl => match us, hl with | [_], _ => by kernel_rfl) (j := 12) (Nat.le_refl _) (fun z => by cases z) rfl
theorem tab_14 (X : K.In h) (G : h.Ns mainGlobals mg) (c : Says h K) (TB : ∀ p ∈ (GG K mg).cs, LamX.TabB base mg p.1 p.2) : TabOk PySem.Challenge.rw_seatsdue_k52_whole_spans_of_seats.prog w (GG K mg) base 14 G14 := by
  obtain ⟨fd, F⟩ := c.d.def_ 13 (d := d_quotient) rfl
  exact tab_step (n := 40) (N := N_quotient) (ps := P_quotient) (lam := false) (tab_13 X G c TB) (xmok X G c) F (He.glo_ok X G (c.d.fact 13 (f := .glo "quotient") rfl)) sc_quotient (by decide +kernel) (by decide +kernel) (fun _ _ _ _ _ _ us hl => match us, hl with | [_, _], _ => by kernel_rfl) (j := 13) (Nat.le_refl _) (fun z => by cases z) rfl
theorem tab_15 (X : K.In h) (G : h.Ns mainGlobals mg) (c : Says h K) (TB : ∀ p ∈ (GG K mg).cs, LamX.TabB base mg p.1 p.2) : TabOk PySem.Challenge.rw_seatsdue_k52_whole_spans_of_seats.prog w (GG K mg) base 15 G15 := by
  obtain ⟨fd, F⟩ := c.d.def_ 14 (d := d_is_step_in) rfl
  exact tab_step (n := 40) (N := N_is_step_in) (ps := P_is_step_in) (lam := false) (tab_14 X G c TB) (xmok X G c) F (He.glo_ok X G (c.d.fact 14 (f := .glo "is_step_in") rfl)) sc_is_step_in (by decide +kernel) (by decide +kernel) (fun _ _ _ _ _ _ us hl => match us, hl with | [_], _ => by kernel_rfl) (j := 14) (Nat.le_refl _) (fun z => by cases z) rfl
theorem tab_16 (X : K.In h) (G : h.Ns mainGlobals mg) (c : Says h K) (TB : ∀ p ∈ (GG K mg).cs, LamX.TabB base mg p.1 p.2) : TabOk PySem.Challenge.rw_seatsdue_k52_whole_spans_of_seats.prog w (GG K mg) base 16 G16 := by
  obtain ⟨fd, F⟩ := c.d.def_ 15 (d := d_is_way_in) rfl
  exact tab_step (n := 40) (N := N_is_way_in) (ps := P_is_way_in) (lam := false) (tab_15 X G c TB) (xmok X G c) F (He.glo_ok X G (c.d.fact 15 (f := .glo "is_way_in") rfl)) sc_is_way_in (by decide +kernel) (by decide +kernel) (fun _ _ _ _ _ _ us hl => match us, hl with | [_], _ => by kernel_rfl) (j := 15) (Nat.le_refl _) (fun z => by cases z) rfl
theorem tab_17 (X : K.In h) (G : h.Ns mainGlobals mg) (c : Says h K) (TB : ∀ p ∈ (GG K mg).cs, LamX.TabB base mg p.1 p.2) : TabOk PySem.Challenge.rw_seatsdue_k52_whole_spans_of_seats.prog w (GG K mg) base 17 G17 := by
  obtain ⟨fd, F⟩ := c.d.def_ 16 (d := d_has_nought_in) rfl
  exact tab_step (n := 40) (N := N_has_nought_in) (ps := P_has_nought_in) (lam := false) (tab_16 X G c TB) (xmok X G c) F (He.glo_ok X G (c.d.fact 16 (f := .glo "has_nought_in") rfl)) sc_has_nought_in (by decide +kernel) (by decide +kernel) (fun _ _ _ _ _ _ us hl => match us, hl with | [_], _ => by kernel_rfl) (j := 16) (Nat.le_refl _) (fun z => by cases z) rfl
theorem tab_18 (X : K.In h) (G : h.Ns mainGlobals mg) (c : Says h K) (TB : ∀ p ∈ (GG K mg).cs, LamX.TabB base mg p.1 p.2) : TabOk PySem.Challenge.rw_seatsdue_k52_whole_spans_of_seats.prog w (GG K mg) base 18 G18 := by
  obtain ⟨fd, F⟩ := c.d.def_ 17 (d := d_require_way) rfl
  exact tab_step (n := 40) (N := N_require_way) (ps := P_require_way) (lam := false) (tab_17 X G c TB) (xmok X G c) F (He.glo_ok X G (c.d.fact 17 (f := .glo "require_way") rfl)) sc_require_way (by decide +kernel) (by decide +kernel) (fun _ _ _ _ _ _ us hl => match us, hl with | [_], _ => by kernel_rfl) (j := 17) (Nat.le_refl _) (fun z => by cases z) rfl
theorem tab_19 (X : K.In h) (G : h.Ns mainGlobals mg) (c : Says h K) (TB : ∀ p ∈ (GG K mg).cs, LamX.TabB base mg p.1 p.2) : TabOk PySem.Challenge.rw_seatsdue_k52_whole_spans_of_seats.prog w (GG K mg) base 19 G19 := by
  obtain ⟨fd, F⟩ := c.d.def_ 18 (d := d_possible_in) rfl
  exact tab_step (n := 40) (N := N_possible_in) (ps := P_possible_in) (lam := false) (tab_18 X G c TB) (xmok X G c) F (He.glo_ok X G (c.d.fact 18 (f := .glo "possible_in") rfl)) sc_possible_in (by decide +kernel) (by decide +kernel) (fun _ _ _ _ _ _ us hl => match us, hl with | [_, _, _, _], _ => by kernel_rfl) (j := 18) (Nat.le_refl _) (fun z => by cases z) rfl
theorem tab_20 (X : K.In h) (G : h.Ns mainGlobals mg) (c : Says h K) (TB : ∀ p ∈ (GG K mg).cs, LamX.TabB base mg p.1 p.2) : TabOk PySem.Challenge.rw_seatsdue_k52_whole_spans_of_seats.prog w (GG K mg) base 20 G20 := by
  obtain ⟨fd, F⟩ := c.d.def_ 19 (d := d_with_seats) rfl
  exact tab_step (n := 40) (N := N_with_seats) (ps := P_with_seats) (lam := false) (tab_19 X G c TB) (xmok X G c) F (He.glo_ok X G (c.d.fact 19 (f := .glo "with_seats") rfl)) sc_with_seats (by decide +kernel) (by decide +kernel) (fun _ _ _ _ _ _ us hl => match us, hl with | [_, _, _], _ => by kernel_rfl) (j := 19) (Nat.le_refl _) (fun z => by cases z) rfl
theorem tab_21 (X : K.In h) (G : h.Ns mainGlobals mg) (c : Says h K) (TB : ∀ p ∈ (GG K mg).cs, LamX.TabB base mg p.1 p.2) : TabOk PySem.Challenge.rw_seatsdue_k52_whole_spans_of_seats.prog w (GG K mg) base 21 G21 := by
  obtain ⟨fd, F⟩ := c.d.def_ 20 (d := d_sure_in) rfl
  exact tab_step (n := 40) (N := N_sure_in) (ps := P_sure_in) (lam := false) (tab_20 X G c TB) (xmok X G c) F (He.glo_ok X G (c.d.fact 20 (f := .glo "sure_in") rfl)) sc_sure_in (by decide +kernel) (by decide +kernel) (fun _ _ _ _ _ _ us hl => match us, hl with | [_, _, _, _], _ => by kernel_rfl) (j := 20) (Nat.le_refl _) (fun z => by cases z) rfl
theorem tab_22 (X : K.In h) (G : h.Ns mainGlobals mg) (c : Says h K) (TB : ∀ p ∈ (GG K mg).cs, LamX.TabB base mg p.1 p.2) : TabOk PySem.Challenge.rw_seatsdue_k52_whole_spans_of_seats.prog w (GG K mg) base 22 G22 := by
  obtain ⟨fd, F⟩ := c.d.def_ 21 (d := d_is_sure) rfl
  exact tab_step (n := 40) (N := N_is_sure) (ps := P_is_sure) (lam := false) (tab_21 X G c TB) (xmok X G c) F (He.glo_ok X G (c.d.fact 21 (f := .glo "is_sure") rfl)) sc_is_sure (by decide +kernel) (by decide +kernel) (fun _ _ _ _ _ _ us hl => match us, hl with | [_, _, _, _, _], _ => by kernel_rfl) (j := 21) (Nat.le_refl _) (fun z => by cases z) rfl
theorem tab_23 (X : K.In h) (G : h.Ns mainGlobals mg) (c : Says h K) (TB : ∀ p ∈ (GG K mg).cs, LamX.TabB base mg p.1 p.2) : TabOk PySem.Challenge.rw_seatsdue_k52_whole_spans_of_seats.prog w (GG K mg) base 23 G23 := by
  obtain ⟨fd, F⟩ := c.d.def_ 22 (d := d_span_by) rfl
  exact tab_step (n := 40) (N := N_span_by) (ps := P_span_by) (lam := false) (tab_22 X G c TB) (xmok X G c) F (He.glo_ok X G (c.d.fact 22 (f := .glo "span_by") rfl)) sc_span_by (by decide +kernel) (by decide +kernel) (fun _ _ _ _ _ _ us hl => match us, hl with | [_, _, _, _], _ => by kernel_rfl) (j := 22) (Nat.le_refl _) (fun z => by cases z) rfl
theorem tab_24 (X : K.In h) (G : h.Ns mainGlobals mg) (c : Says h K) (TB : ∀ p ∈ (GG K mg).cs, LamX.TabB base mg p.1 p.2) : TabOk PySem.Challenge.rw_seatsdue_k52_whole_spans_of_seats.prog w (GG K mg) base 24 G24 := by
  obtain ⟨fd, F⟩ := c.d.def_ 23 (d := d_require_step_way) rfl
  exact tab_step (n := 40) (N := N_require_step_way) (ps := P_require_step_way) (lam := false) (tab_23 X G c TB) (xmok X G c) F (He.glo_ok X G (c.d.fact 23 (f := .glo "require_step_way") rfl)) sc_require_step_way (by decide +kernel) (by decide +kernel) (fun _ _ _ _ _ _ us hl => match us, hl with | [_], _ => by kernel_rfl) (j := 23) (Nat.le_refl _) (fun z => by cases z) rfl
theorem tab_25 (X : K.In h) (G : h.Ns mainGlobals mg) (c : Says h K) (TB : ∀ p ∈ (GG K mg).cs, LamX.TabB base mg p.1 p.2) : TabOk PySem.Challenge.rw_seatsdue_k52_whole_spans_of_seats.prog w (GG K mg) base 25 G25 := by
  obtain ⟨fd, F⟩ := c.d.def_ 24 (d := d_require_part) rfl
  exact tab_step (n := 40) (N := N_require_part) (ps := P_require_part) (lam := false) (tab_24 X G c TB) (xmok X G c) F (He.glo_ok X G (c.d.fact 24 (f := .glo "require_part") rfl)) sc_require_part (by decide +kernel) (by decide +kernel) (fun _ _ _ _ _ _ us hl => match us, hl with | [_], _ => by kernel_rfl) (j := 24) (Nat.le_refl _) (fun z => by cases z) rfl
theorem tab_26 (X : K.In h) (G : h.Ns mainGlobals mg) (c : Says h K) (TB : ∀ p ∈ (GG K mg).cs, LamX.TabB base mg p.1 p.2) : TabOk PySem.Challenge.rw_seatsdue_k52_whole_spans_of_seats.prog w (GG K mg) base 26 G26 := by
  obtain ⟨fd, F⟩ := c.d.def_ 25 (d := d_seats_span) rfl
  exact tab_step (n := 40) (N := N_seats_span) (ps := P_seats_span) (lam := false) (tab_25 X G c TB) (xmok X G c) F (He.glo_ok X G (c.d.fact 25 (f := .glo "seats_span") rfl)) sc_seats_span (by decide +kernel) (by decide +kernel) (fun _ _ _ _ _ _ us hl => match us, hl with | [_, _, _, _], _ => by kernel_rfl) (j := 25) (Nat.le_refl _) (fun z => by cases z) rfl
theorem tab_27 (X : K.In h) (G : h.Ns mainGlobals mg) (c : Says h K) (TB : ∀ p ∈ (GG K mg).cs, LamX.TabB base mg p.1 p.2) : TabOk PySem.Challenge.rw_seatsdue_k52_whole_spans_of_seats.prog w (GG K mg) base 27 G27 := by
  obtain ⟨fd, F⟩ := c.d.def_ 26 (d := d_house_from) rfl
  exact tab_step (n := 40) (N := N_house_from) (ps := P_house_from) (lam := false) (tab_26 X G c TB) (xmok X G c) F (He.glo_ok X G (c.d.fact 26 (f := .glo "house_from") rfl)) sc_house_from (by decide +kernel) (by decide +kernel) (fun _ _ _ _ _ _ us hl => match us, hl with | [_, _, _, _], _ => by kernel_rfl) (j := 26) (Nat.le_refl _) (fun z => by cases z) rfl
theorem tab_28 (X : K.In h) (G : h.Ns mainGlobals mg) (c : Says h K) (TB : ∀ p ∈ (GG K mg).cs, LamX.TabB base mg p.1 p.2) : TabOk PySem.Challenge.rw_seatsdue_k52_whole_spans_of_seats.prog w (GG K mg) base 28 G28 := by
  obtain ⟨fd, F⟩ := c.d.def_ 27 (d := d__law_dice) rfl
  exact tab_step (n := 40) (N := N__law_dice) (ps := P__law_dice) (lam := false) (tab_27 X G c TB) (xmok X G c) F (He.glo_ok X G (c.d.fact 27 (f := .glo "_law_dice") rfl)) sc__law_dice (by decide +kernel) (by decide +kernel) (fun _ _ _ _ _ _ us hl => match us, hl with | [_, _], _ => by kernel_rfl) (j := 27) (Nat.le_refl _) (fun z => by cases z) rfl
theorem tab_29 (X : K.In h) (G : h.Ns mainGlobals mg) (c : Says h K) (TB : ∀ p ∈ (GG K mg).cs, LamX.TabB base mg p.1 p.2) : TabOk PySem.Challenge.rw_seatsdue_k52_whole_spans_of_seats.prog w (GG K mg) base 29 G29 := by
  obtain ⟨fd, F⟩ := c.d.def_ 28 (d := d__law_roll) rfl
  exact tab_step (n := 40) (N := N__law_roll) (ps := P__law_roll) (lam := false) (tab_28 X G c TB) (xmok X G c) F (He.glo_ok X G (c.d.fact 28 (f := .glo "_law_roll") rfl)) sc__law_roll (by decide +kernel) (by decide +kernel) (fun _ _ _ _ _ _ us hl => match us, hl with | [_, _], _ => by kernel_rfl) (j := 28) (Nat.le_refl _) (fun z => by cases z) rfl
theorem tab_30 (X : K.In h) (G : h.Ns mainGlobals mg) (c : Says h K) (TB : ∀ p ∈ (GG K mg).cs, LamX.TabB base mg p.1 p.2) : TabOk PySem.Challenge.rw_seatsdue_k52_whole_spans_of_seats.prog w (GG K mg) base 30 G30 := by
  obtain ⟨fd, F⟩ := c.d.def_ 29 (d := d__law_pick) rfl
  exact tab_step (n := 40) (N := N__law_pick) (ps := P__law_pick) (lam := false) (tab_29 X G c TB) (xmok X G c) F (He.glo_ok X G (c.d.fact 29 (f := .glo "_law_pick") rfl)) sc__law_pick (by decide +kernel) (by decide +kernel) (fun _ _ _ _ _ _ us hl => match us, hl with | [_, _], _ => by kernel_rfl) (j := 29) (Nat.le_refl _) (fun z => by cases z) rfl
theorem tab_31 (X : K.In h) (G : h.Ns mainGlobals mg) (c : Says h K) (TB : ∀ p ∈ (GG K mg).cs, LamX.TabB base mg p.1 p.2) : TabOk PySem.Challenge.rw_seatsdue_k52_whole_spans_of_seats.prog w (GG K mg) base 31 G31 := by
  obtain ⟨fd, F⟩ := c.d.def_ 30 (d := d__law_divisor) rfl
  exact tab_step (n := 40) (N := N__law_divisor) (ps := P__law_divisor) (lam := false) (tab_30 X G c TB) (xmok X G c) F (He.glo_ok X G (c.d.fact 30 (f := .glo "_law_divisor") rfl)) sc__law_divisor (by decide +kernel) (by decide +kernel) (fun _ _ _ _ _ _ us hl => match us, hl with | [_, _], _ => by kernel_rfl) (j := 30) (Nat.le_refl _) (fun z => by cases z) rfl
theorem tab_32 (X : K.In h) (G : h.Ns mainGlobals mg) (c : Says h K) (TB : ∀ p ∈ (GG K mg).cs, LamX.TabB base mg p.1 p.2) : TabOk PySem.Challenge.rw_seatsdue_k52_whole_spans_of_seats.prog w (GG K mg) base 32 G32 := by
  obtain ⟨fd, F⟩ := c.d.def_ 31 (d := d__law_fraction) rfl
  exact tab_step (n := 40) (N := N__law_fraction) (ps := P__law_fraction) (lam := false) (tab_31 X G c TB) (xmok X G c) F (He.glo_ok X G (c.d.fact 31 (f := .glo "_law_fraction") rfl)) sc__law_fraction (by decide +kernel) (by decide +kernel) (fun _ _ _ _ _ _ us hl => match us, hl with | [_, _], _ => by kernel_rfl) (j := 31) (Nat.le_refl _) (fun z => by cases z) rfl
theorem tab_33 (X : K.In h) (G : h.Ns mainGlobals mg) (c : Says h K) (TB : ∀ p ∈ (GG K mg).cs, LamX.TabB base mg p.1 p.2) : TabOk PySem.Challenge.rw_seatsdue_k52_whole_spans_of_seats.prog w (GG K mg) base 33 G33 := by
  obtain ⟨fd, F⟩ := c.d.def_ 32 (d := d__law_fr_less) rfl
  exact tab_step (n := 40) (N := N__law_fr_less) (ps := P__law_fr_less) (lam := false) (tab_32 X G c TB) (xmok X G c) F (He.glo_ok X G (c.d.fact 32 (f := .glo "_law_fr_less") rfl)) sc__law_fr_less (by decide +kernel) (by decide +kernel) (fun _ _ _ _ _ _ us hl => match us, hl with | [_, _], _ => by kernel_rfl) (j := 32) (Nat.le_refl _) (fun z => by cases z) rfl
theorem tab_34 (X : K.In h) (G : h.Ns mainGlobals mg) (c : Says h K) (TB : ∀ p ∈ (GG K mg).cs, LamX.TabB base mg p.1 p.2) : TabOk PySem.Challenge.rw_seatsdue_k52_whole_spans_of_seats.prog w (GG K mg) base 34 G34 := by
  obtain ⟨fd, F⟩ := c.d.def_ 33 (d := d__law_votes) rfl
  exact tab_step (n := 40) (N := N__law_votes) (ps := P__law_votes) (lam := false) (tab_33 X G c TB) (xmok X G c) F (He.glo_ok X G (c.d.fact 33 (f := .glo "_law_votes") rfl)) sc__law_votes (by decide +kernel) (by decide +kernel) (fun _ _ _ _ _ _ us hl => match us, hl with | [_, _], _ => by kernel_rfl) (j := 33) (Nat.le_refl _) (fun z => by cases z) rfl
theorem tab_35 (X : K.In h) (G : h.Ns mainGlobals mg) (c : Says h K) (TB : ∀ p ∈ (GG K mg).cs, LamX.TabB base mg p.1 p.2) : TabOk PySem.Challenge.rw_seatsdue_k52_whole_spans_of_seats.prog w (GG K mg) base 35 G35 := by
  obtain ⟨fd, F⟩ := c.d.def_ 34 (d := d__law_step_way) rfl
  exact tab_step (n := 40) (N := N__law_step_way) (ps := P__law_step_way) (lam := false) (tab_34 X G c TB) (xmok X G c) F (He.glo_ok X G (c.d.fact 34 (f := .glo "_law_step_way") rfl)) sc__law_step_way (by decide +kernel) (by decide +kernel) (fun _ _ _ _ _ _ us hl => match us, hl with | [_], _ => by kernel_rfl) (j := 34) (Nat.le_refl _) (fun z => by cases z) rfl
theorem tab_36 (X : K.In h) (G : h.Ns mainGlobals mg) (c : Says h K) (TB : ∀ p ∈ (GG K mg).cs, LamX.TabB base mg p.1 p.2) : TabOk PySem.Challenge.rw_seatsdue_k52_whole_spans_of_seats.prog w (GG K mg) base 36 G36 := by
  obtain ⟨fd, F⟩ := c.d.def_ 35 (d := d__law_square) rfl
  exact tab_step (n := 40) (N := N__law_square) (ps := P__law_square) (lam := false) (tab_35 X G c TB) (xmok X G c) F (He.glo_ok X G (c.d.fact 35 (f := .glo "_law_square") rfl)) sc__law_square (by decide +kernel) (by decide +kernel) (fun _ _ _ _ _ _ us hl => match us, hl with | [_, _], _ => by kernel_rfl) (j := 35) (Nat.le_refl _) (fun z => by cases z) rfl
theorem tab_37 (X : K.In h) (G : h.Ns mainGlobals mg) (c : Says h K) (TB : ∀ p ∈ (GG K mg).cs, LamX.TabB base mg p.1 p.2) : TabOk PySem.Challenge.rw_seatsdue_k52_whole_spans_of_seats.prog w (GG K mg) base 37 G37 := by
  obtain ⟨fd, F⟩ := c.d.def_ 36 (d := d__law_compared) rfl
  exact tab_step (n := 40) (N := N__law_compared) (ps := P__law_compared) (lam := false) (tab_36 X G c TB) (xmok X G c) F (He.glo_ok X G (c.d.fact 36 (f := .glo "_law_compared") rfl)) sc__law_compared (by decide +kernel) (by decide +kernel) (fun _ _ _ _ _ _ us hl => match us, hl with | [_, _, _, _, _], _ => by kernel_rfl) (j := 36) (Nat.le_refl _) (fun z => by cases z) rfl
theorem tab_38 (X : K.In h) (G : h.Ns mainGlobals mg) (c : Says h K) (TB : ∀ p ∈ (GG K mg).cs, LamX.TabB base mg p.1 p.2) : TabOk PySem.Challenge.rw_seatsdue_k52_whole_spans_of_seats.prog w (GG K mg) base 38 G38 := by
  obtain ⟨fd, F⟩ := c.d.def_ 37 (d := d__law_sh_beyond) rfl
  exact tab_step (n := 40) (N := N__law_sh_beyond) (ps := P__law_sh_beyond) (lam := false) (tab_37 X G c TB) (xmok X G c) F (He.glo_ok X G (c.d.fact 37 (f := .glo "_law_sh_beyond") rfl)) sc__law_sh_beyond (by decide +kernel) (by decide +kernel) (fun _ _ _ _ _ _ us hl => match us, hl with | [_, _, _, _], _ => by kernel_rfl) (j := 37) (Nat.le_refl _) (fun z => by cases z) rfl
theorem tab_39 (X : K.In h) (G : h.Ns mainGlobals mg) (c : Says h K) (TB : ∀ p ∈ (GG K mg).cs, LamX.TabB base mg p.1 p.2) : TabOk PySem.Challenge.rw_seatsdue_k52_whole_spans_of_seats.prog w (GG K mg) base 39 G39 := by
  obtain ⟨fd, F⟩ := c.d.def_ 38 (d := d__law_sh_can) rfl
  exact tab_step (n := 40) (N := N__law_sh_can) (ps := P__law_sh_can) (lam := false) (tab_38 X G c TB) (xmok X G c) F (He.glo_ok X G (c.d.fact 38 (f := .glo "_law_sh_can") rfl)) sc__law_sh_can (by decide +kernel) (by decide +kernel) (fun _ _ _ _ _ _ us hl => match us, hl with | [_, _, _, _], _ => by kernel_rfl) (j := 38) (Nat.le_refl _) (fun z => by cases z) rfl
theorem tab_40 (X : K.In h) (G : h.Ns mainGlobals mg) (c : Says h K) (TB : ∀ p ∈ (GG K mg).cs, LamX.TabB base mg p.1 p.2) : TabOk PySem.Challenge.rw_seatsdue_k52_whole_spans_of_seats.prog w (GG K mg) base 40 G40 := by
  obtain ⟨fd, F⟩ := c.d.def_ 39 (d := d__law_sh_sure) rfl
  exact tab_step (n := 40) (N := N__law_sh_sure) (ps := P__law_sh_sure) (lam := false) (tab_39 X G c TB) (xmok X G c) F (He.glo_ok X G (c.d.fact 39 (f := .glo "_law_sh_sure") rfl)) sc__law_sh_sure (by decide +kernel) (by decide +kernel) (fun _ _ _ _ _ _ us hl => match us, hl with | [_, _, _, _], _ => by kernel_rfl) (j := 39) (Nat.le_refl _) (fun z => by cases z) rfl
theorem tab_41 (X : K.In h) (G : h.Ns mainGlobals mg) (c : Says h K) (TB : ∀ p ∈ (GG K mg).cs, LamX.TabB base mg p.1 p.2) : TabOk PySem.Challenge.rw_seatsdue_k52_whole_spans_of_seats.prog w (GG K mg) base 41 G41 := by
  obtain ⟨fd, F⟩ := c.d.def_ 40 (d := d__law_sh_possible) rfl
  exact tab_step (n := 40) (N := N__law_sh_possible) (ps := P__law_sh_possible) (lam := false) (tab_40 X G c TB) (xmok X G c) F (He.glo_ok X G (c.d.fact 40 (f := .glo "_law_sh_possible") rfl)) sc__law_sh_possible (by decide +kernel) (by decide +kernel) (fun _ _ _ _ _ _ us hl => match us, hl with | [_, _, _, _], _ => by kernel_rfl) (j := 40) (Nat.le_refl _) (fun z => by cases z) rfl
theorem tab_42 (X : K.In h) (G : h.Ns mainGlobals mg) (c : Says h K) (TB : ∀ p ∈ (GG K mg).cs, LamX.TabB base mg p.1 p.2) : TabOk PySem.Challenge.rw_seatsdue_k52_whole_spans_of_seats.prog w (GG K mg) base 42 G42 := by
  obtain ⟨fd, F⟩ := c.d.def_ 41 (d := d__law_sh_bound) rfl
  exact tab_step (n := 40) (N := N__law_sh_bound) (ps := P__law_sh_bound) (lam := false) (tab_41 X G c TB) (xmok X G c) F (He.glo_ok X G (c.d.fact 41 (f := .glo "_law_sh_bound") rfl)) sc__law_sh_bound (by decide +kernel) (by decide +kernel) (fun _ _ _ _ _ _ us hl => match us, hl with | [_, _, _, _], _ => by kernel_rfl) (j := 41) (Nat.le_refl _) (fun z => by cases z) rfl
theorem tab_43 (X : K.In h) (G : h.Ns mainGlobals mg) (c : Says h K) (TB : ∀ p ∈ (GG K mg).cs, LamX.TabB base mg p.1 p.2) : TabOk PySem.Challenge.rw_seatsdue_k52_whole_spans_of_seats.prog w (GG K mg) base 43 G43 := by
  obtain ⟨fd, F⟩ := c.d.def_ 42 (d := d__law_sh_is_sure) rfl
  exact tab_step (n := 40) (N := N__law_sh_is_sure) (ps := P__law_sh_is_sure) (lam := false) (tab_42 X G c TB) (xmok X G c) F (He.glo_ok X G (c.d.fact 42 (f := .glo "_law_sh_is_sure") rfl)) sc__law_sh_is_sure (by decide +kernel) (by decide +kernel) (fun _ _ _ _ _ _ us hl => match us, hl with | [_, _, _, _, _], _ => by kernel_rfl) (j := 42) (Nat.le_refl _) (fun z => by cases z) rfl
theorem tab_44 (X : K.In h) (G : h.Ns mainGlobals mg) (c : Says h K) (TB : ∀ p ∈ (GG K mg).cs, LamX.TabB base mg p.1 p.2) : TabOk PySem.Challenge.rw_seatsdue_k52_whole_spans_of_seats.prog w (GG K mg) base 44 G44 := by
  obtain ⟨fd, F⟩ := c.d.def_ 43 (d := d__law_met) rfl
  exact tab_step (n := 40) (N := N__law_met) (ps := P__law_met) (lam := false) (tab_43 X G c TB) (xmok X G c) F (He.glo_ok X G (c.d.fact 43 (f := .glo "_law_met") rfl)) sc__law_met (by decide +kernel) (by decide +kernel) (fun _ _ _ _ _ _ us hl => match us, hl with | [_, _, _, _], _ => by kernel_rfl) (j := 43) (Nat.le_refl _) (fun z => by cases z) rfl
theorem tab_45 (X : K.In h) (G : h.Ns mainGlobals mg) (c : Says h K) (TB : ∀ p ∈ (GG K mg).cs, LamX.TabB base mg p.1 p.2) : TabOk PySem.Challenge.rw_seatsdue_k52_whole_spans_of_seats.prog w (GG K mg) base 45 G45 := by
  obtain ⟨fd, F⟩ := c.d.def_ 44 (d := d__law_seat_span) rfl
  exact tab_step (n := 40) (N := N__law_seat_span) (ps := P__law_seat_span) (lam := false) (tab_44 X G c TB) (xmok X G c) F (He.glo_ok X G (c.d.fact 44 (f := .glo "_law_seat_span") rfl)) sc__law_seat_span (by decide +kernel) (by decide +kernel) (fun _ _ _ _ _ _ us hl => match us, hl with | [_, _, _, _], _ => by kernel_rfl) (j := 44) (Nat.le_refl _) (fun z => by cases z) rfl
theorem tab_46 (X : K.In h) (G : h.Ns mainGlobals mg) (c : Says h K) (TB : ∀ p ∈ (GG K mg).cs, LamX.TabB base mg p.1 p.2) : TabOk PySem.Challenge.rw_seatsdue_k52_whole_spans_of_seats.prog w (GG K mg) base 46 G46 := by
  obtain ⟨fd, F⟩ := c.d.def_ 45 (d := d__law_right) rfl
  exact tab_step (n := 40) (N := N__law_right) (ps := P__law_right) (lam := false) (tab_45 X G c TB) (xmok X G c) F (He.glo_ok X G (c.d.fact 45 (f := .glo "_law_right") rfl)) sc__law_right (by decide +kernel) (by decide +kernel) (fun _ _ _ _ _ _ us hl => match us, hl with | [_], _ => by kernel_rfl) (j := 45) (Nat.le_refl _) (fun z => by cases z) rfl
theorem tab_47 (X : K.In h) (G : h.Ns mainGlobals mg) (c : Says h K) (TB : ∀ p ∈ (GG K mg).cs, LamX.TabB base mg p.1 p.2) : TabOk PySem.Challenge.rw_seatsdue_k52_whole_spans_of_seats.prog w (GG K mg) base 47 G47 := by
  obtain ⟨fd, F⟩ := c.d.def_ 46 (d := d_law) rfl
  exact tab_step (n := 40) (N := N_law) (ps := P_law) (lam := false) (tab_46 X G c TB) (xmok X G c) F (He.glo_ok X G (c.d.fact 46 (f := .glo "law") rfl)) sc_law (by decide +kernel) (by decide +kernel) (fun _ _ _ _ _ _ us hl => match us, hl with | [_], _ => by kernel_rfl) (j := 46) (Nat.le_refl _) (fun z => by cases z) rfl
theorem facts {f : Addr} (X : K.In h) (G : h.Ns mainGlobals mg) (hfa : mg ("law" : Str) = some (.ref f)) (c : Says h K) :
    ∃ fd : FuncData, (∀ (s : Shared) (v : Value), BindsTo s fd ⟨[v], []⟩ [("script", v)]) ∧ ∀ base : Heap, K.In base → base.Ns mainGlobals mg → (∀ p ∈ (GG K mg).cs, LamX.TabB base mg p.1 p.2) → FnG PySem.Challenge.rw_seatsdue_k52_whole_spans_of_seats.prog w K mg base 47 f fd ["script"] (spOf (GG K mg) 1 F_law) := by
  obtain ⟨fd, F⟩ := c.d.def_ 46 (d := d_law) rfl
  have e := hfa.symm.trans (He.glo_ok X G (c.d.fact 46 (f := .glo "law") rfl))
  cases e
  have b := FunD.bindsA (ps := ["script"]) F fun _ _ _ _ _ _ us hl => match us, hl with | [_], _ => by kernel_rfl
  exact ⟨fd, fun s v => b s [v] rfl, fun base _ _ TB => fnG_of (G := GG K mg) (N := N_law) (ps := P_law) (n := 40) (lam := false) F sc_law (by decide +kernel) (tab_46 X G c TB) (xmok X G c) (j := 46) (Nat.le_refl _) (fun z => by cases z)⟩
end
end LW
namespace LW
open PySem PL L2
def GP0 : Gm := G0
theorem gp0 : G0 = GP0 := rfl
def B_is_whole : M O := (sSeq (sRetU (uVal (eAndV (eIsi "int" (eVar 0)) (eNotV (eIsi "bool" (eVar 0)))))) (ret .next))
theorem e_is_whole (svs : List SV) : F_is_whole svs = finF svs (B_is_whole (envOf N_is_whole svs)) := by kernel_rfl
def BP_is_whole : M O := (sSeq (sRetU (uVal (eAndV (eIsi "int" (eVar 0)) (eNotV (eIsi "bool" (eVar 0)))))) (ret .next))
def FP_is_whole : Fn := fun svs => finF svs (BP_is_whole (envOf N_is_whole svs))
theorem b_is_whole : B_is_whole = BP_is_whole := by rfl
theorem p_is_whole : F_is_whole = FP_is_whole := by funext svs; rw [e_is_whole, b_is_whole]; rfl
def GP1 : Gm := ⟨("is_whole", .fn 1 [false] FP_is_whole) :: GP0.tab, fu, xms⟩
theorem gp1 : G1 = GP1 := by unfold G1 GP1; rw [p_is_whole, gp0]
def B_is_near : M O := (sSeq (sRetU (uVal (eAndV (eCallL [false] 1 F_is_whole (aCons (aRefV 0) (aNil))) (eChain gLt gLt (eUn gNeg (eC (.int (1000000000000000000000000000000000000000000000000000000000000)))) (eVar 0) (eC (.int (1000000000000000000000000000000000000000000000000000000000000))))))) (ret .next))
theorem e_is_near (svs : List SV) : F_is_near svs = finF svs (B_is_near (envOf N_is_near svs)) := by kernel_rfl
def BP_is_near : M O := (sSeq (sRetU (uVal (eAndV (eCallL [false] 1 FP_is_whole (aCons (aRefV 0) (aNil))) (eChain gLt gLt (eUn gNeg (eC (.int (1000000000000000000000000000000000000000000000000000000000000)))) (eVar 0) (eC (.int (1000000000000000000000000000000000000000000000000000000000000))))))) (ret .next))
def FP_is_near : Fn := fun svs => finF svs (BP_is_near (envOf N_is_near svs))
theorem b_is_near : B_is_near = BP_is_near := by unfold B_is_near BP_is_near; simp only [p_is_whole]
theorem p_is_near : F_is_near = FP_is_near := by funext svs; rw [e_is_near, b_is_near]; rfl
def GP2 : Gm := ⟨("is_near", .fn 1 [false] FP_is_near) :: GP1.tab, fu, xms⟩
theorem gp2 : G2 = GP2 := by unfold G2 GP2; rw [p_is_near, gp1]
def B_is_pair : M O := (sSeq (sRetU (uVal (eAndV (eIsi "tuple" (eVar 0)) (eOp gEq (eFnO gLen 0) (eC (.int (2))))))) (ret .next))
theorem e_is_pair (svs : List SV) : F_is_pair svs = finF svs (B_is_pair (envOf N_is_pair svs)) := by kernel_rfl
def BP_is_pair : M O := (sSeq (sRetU (uVal (eAndV (eIsi "tuple" (eVar 0)) (eOp gEq (eFnO gLen 0) (eC (.int (2))))))) (ret .next))
def FP_is_pair : Fn := fun svs => finF svs (BP_is_pair (envOf N_is_pair svs))
theorem b_is_pair : B_is_pair = BP_is_pair := by rfl
theorem p_is_pair : F_is_pair = FP_is_pair := by funext svs; rw [e_is_pair, b_is_pair]; rfl
def GP3 : Gm := ⟨("is_pair", .fn 1 [false] FP_is_pair) :: GP2.tab, fu, xms⟩
theorem gp3 : G3 = GP3 := by unfold G3 GP3; rw [p_is_pair, gp2]
def B_require_number : M O := (sSeq (sIf (tOrM (tNotM (eTru (eCallL [false] 1 F_is_near (aCons (aRefV 0) (aNil))))) (tOrM (tAndM (eTB (eOpL gNotN 1 (eC .non))) (eTB (eOpL gLt 0 (eVar 1)))) (tAndM (eTB (eOpL gNotN 2 (eC .non))) (eTB (eOpL gGt 0 (eVar 2)))))) (sSeq (sRaise1 "InvalidNumber" (eVar 0)) (ret .next)) (ret .next)) (ret .next))
theorem e_require_number (svs : List SV) : F_require_number svs = finF svs (B_require_number (envOf N_require_number svs)) := by kernel_rfl
def BP_require_number : M O := (sSeq (sIf (tOrM (tNotM (eTru (eCallL [false] 1 FP_is_near (aCons (aRefV 0) (aNil))))) (tOrM (tAndM (eTB (eOpL gNotN 1 (eC .non))) (eTB (eOpL gLt 0 (eVar 1)))) (tAndM (eTB (eOpL gNotN 2 (eC .non))) (eTB (eOpL gGt 0 (eVar 2)))))) (sSeq (sRaise1 "InvalidNumber" (eVar 0)) (ret .next)) (ret .next)) (ret .next))
def FP_require_number : Fn := fun svs => finF svs (BP_require_number (envOf N_require_number svs))
theorem b_require_number : B_require_number = BP_require_number := by unfold B_require_number BP_require_number; simp only [p_is_near]
theorem p_require_number : F_require_number = FP_require_number := by funext svs; rw [e_require_number, b_require_number]; rfl
def GP4 : Gm := ⟨("require_number", .fn 3 [false, false, false] FP_require_number) :: GP3.tab, fu, xms⟩
theorem gp4 : G4 = GP4 := by unfold G4 GP4; rw [p_require_number, gp3]
def B_common_divisor : M O := (sSeq (sPar2 2 3 (uCons (uVal (eFnB gAbs 0)) (uCons (uVal (eFnB gAbs 1)) (uNil)))) (sSeq (whileN (eTruB 3) (sSeq (sPar2 2 3 (uCons (uVal (eVar 3)) (uCons (uVal (eOp gMod (eVar 2) (eVar 3))) (uNil)))) (ret .next)) 1000000) (sSeq (sRetV 2) (ret .next))))
theorem e_common_divisor (svs : List SV) : F_common_divisor svs = finF svs (B_common_divisor (envOf N_common_divisor svs)) := by kernel_rfl
def BP_common_divisor : M O := (sSeq (sPar2 2 3 (uCons (uVal (eFnB gAbs 0)) (uCons (uVal (eFnB gAbs 1)) (uNil)))) (sSeq (whileN (eTruB 3) (sSeq (sPar2 2 3 (uCons (uVal (eVar 3)) (uCons (uVal (eOp gMod (eVar 2) (eVar 3))) (uNil)))) (ret .next)) 1000000) (sSeq (sRetV 2) (ret .next))))
def FP_common_divisor : Fn := fun svs => finF svs (BP_common_divisor (envOf N_common_divisor svs))
theorem b_common_divisor : B_common_divisor = BP_common_divisor := by rfl
theorem p_common_divisor : F_common_divisor = FP_common_divisor := by funext svs; rw [e_common_divisor, b_common_divisor]; rfl
def GP5 : Gm := ⟨("common_divisor", .fn 2 [false, false] FP_common_divisor) :: GP4.tab, fu, xms⟩
theorem gp5 : G5 = GP5 := by unfold G5 GP5; rw [p_common_divisor, gp4]
def B_fraction : M O := (sSeq (sSetU 2 (uVal (eOp gMulI (eCallL [false, false] 2 F_common_divisor (aCons (aRefV 0) (aCons (aRefV 1) (aNil)))) (eIf (eTB (eOpL gGt 1 (eC (.int (0))))) (eC (.int (1))) (eUn gNeg (eC (.int (1)))))))) (sSeq (sRetU (uVal (eTup (eCons (eOp gFdiv (eVar 0) (eVar 2)) (eCons (eOp gFdiv (eVar 1) (eVar 2)) (eNil)))))) (ret .next)))
theorem e_fraction (svs : List SV) : F_fraction svs = finF svs (B_fraction (envOf N_fraction svs)) := by kernel_rfl
def BP_fraction : M O := (sSeq (sSetU 2 (uVal (eOp gMulI (eCallL [false, false] 2 FP_common_divisor (aCons (aRefV 0) (aCons (aRefV 1) (aNil)))) (eIf (eTB (eOpL gGt 1 (eC (.int (0))))) (eC (.int (1))) (eUn gNeg (eC (.int (1)))))))) (sSeq (sRetU (uVal (eTup (eCons (eOp gFdiv (eVar 0) (eVar 2)) (eCons (eOp gFdiv (eVar 1) (eVar 2)) (eNil)))))) (ret .next)))
def FP_fraction : Fn := fun svs => finF svs (BP_fraction (envOf N_fraction svs))
theorem b_fraction : B_fraction = BP_fraction := by unfold B_fraction BP_fraction; simp only [p_common_divisor]
theorem p_fraction : F_fraction = FP_fraction := by funext svs; rw [e_fraction, b_fraction]; rfl
def GP6 : Gm := ⟨("fraction", .fn 2 [false, false] FP_fraction) :: GP5.tab, fu, xms⟩
theorem gp6 : G6 = GP6 := by unfold G6 GP6; rw [p_fraction, gp5]
def B_plus : M O := (sSeq (sRetU (uCall 2 F_fraction (aCons (aVal (eOp gAdd (eOp gMulI (eIxB 0 (eC (.int (0)))) (eIxB 1 (eC (.int (1))))) (eOp gMulI (eIxB 1 (eC (.int (0)))) (eIxB 0 (eC (.int (1))))))) (aCons (aVal (eOp gMulI (eIxB 0 (eC (.int (1)))) (eIxB 1 (eC (.int (1)))))) (aNil))))) (ret .next))
theorem e_plus (svs : List SV) : F_plus svs = finF svs (B_plus (envOf N_plus svs)) := by kernel_rfl
def BP_plus : M O := (sSeq (sRetU (uCall 2 FP_fraction (aCons (aVal (eOp gAdd (eOp gMulI (eIxB 0 (eC (.int (0)))) (eIxB 1 (eC (.int (1))))) (eOp gMulI (eIxB 1 (eC (.int (0)))) (eIxB 0 (eC (.int (1))))))) (aCons (aVal (eOp gMulI (eIxB 0 (eC (.int (1)))) (eIxB 1 (eC (.int (1)))))) (aNil))))) (ret .next))
def FP_plus : Fn := fun svs => finF svs (BP_plus (envOf N_plus svs))
theorem b_plus : B_plus = BP_plus := by unfold B_plus BP_plus; simp only [p_fraction]
theorem p_plus : F_plus = FP_plus := by funext svs; rw [e_plus, b_plus]; rfl
def GP7 : Gm := ⟨("plus", .fn 2 [false, false] FP_plus) :: GP6.tab, fu, xms⟩
theorem gp7 : G7 = GP7 := by unfold G7 GP7; rw [p_plus, gp6]
def B_minus : M O := (sSeq (sRetU (uCall 2 F_fraction (aCons (aVal (eOp gSub (eOp gMulI (eIxB 0 (eC (.int (0)))) (eIxB 1 (eC (.int (1))))) (eOp gMulI (eIxB 1 (eC (.int (0)))) (eIxB 0 (eC (.int (1))))))) (aCons (aVal (eOp gMulI (eIxB 0 (eC (.int (1)))) (eIxB 1 (eC (.int (1)))))) (aNil))))) (ret .next))
theorem e_minus (svs : List SV) : F_minus svs = finF svs (B_minus (envOf N_minus svs)) := by kernel_rfl
def BP_minus : M O := (sSeq (sRetU (uCall 2 FP_fraction (aCons (aVal (eOp gSub (eOp gMulI (eIxB 0 (eC (.int (0)))) (eIxB 1 (eC (.int (1))))) (eOp gMulI (eIxB 1 (eC (.int (0)))) (eIxB 0 (eC (.int (1))))))) (aCons (aVal (eOp gMulI (eIxB 0 (eC (.int (1)))) (eIxB 1 (eC (.int (1)))))) (aNil))))) (ret .next))
def FP_minus : Fn := fun svs => finF svs (BP_minus (envOf N_minus svs))
theorem b_minus : B_minus = BP_minus := by unfold B_minus BP_minus; simp only [p_fraction]
theorem p_minus : F_minus = FP_minus := by funext svs; rw [e_minus, b_minus]; rfl
def GP8 : Gm := ⟨("minus", .fn 2 [false, false] FP_minus) :: GP7.tab, fu, xms⟩
theorem gp8 : G8 = GP8 := by unfold G8 GP8; rw [p_minus, gp7]
def B_times : M O := (sSeq (sRetU (uCall 2 F_fraction (aCons (aVal (eOp gMulI (eIxB 0 (eC (.int (0)))) (eIxB 1 (eC (.int (0)))))) (aCons (aVal (eOp gMulI (eIxB 0 (eC (.int (1)))) (eIxB 1 (eC (.int (1)))))) (aNil))))) (ret .next))
theorem e_times (svs : List SV) : F_times svs = finF svs (B_times (envOf N_times svs)) := by kernel_rfl
def BP_times : M O := (sSeq (sRetU (uCall 2 FP_fraction (aCons (aVal (eOp gMulI (eIxB 0 (eC (.int (0)))) (eIxB 1 (eC (.int (0)))))) (aCons (aVal (eOp gMulI (eIxB 0 (eC (.int (1)))) (eIxB 1 (eC (.int (1)))))) (aNil))))) (ret .next))
def FP_times : Fn := fun svs => finF svs (BP_times (envOf N_times svs))
theorem b_times : B_times = BP_times := by unfold B_times BP_times; simp only [p_fraction]
theorem p_times : F_times = FP_times := by funext svs; rw [e_times, b_times]; rfl
def GP9 : Gm := ⟨("times", .fn 2 [false, false] FP_times) :: GP8.tab, fu, xms⟩
theorem gp9 : G9 = GP9 := by unfold G9 GP9; rw [p_times, gp8]
def B_is_less : M O := (sSeq (sRetU (uVal (eOp gLt (eOp gMulI (eIxB 0 (eC (.int (0)))) (eIxB 1 (eC (.int (1))))) (eOp gMulI (eIxB 1 (eC (.int (0)))) (eIxB 0 (eC (.int (1)))))))) (ret .next))
theorem e_is_less (svs : List SV) : F_is_less svs = finF svs (B_is_less (envOf N_is_less svs)) := by kernel_rfl
def BP_is_less : M O := (sSeq (sRetU (uVal (eOp gLt (eOp gMulI (eIxB 0 (eC (.int (0)))) (eIxB 1 (eC (.int (1))))) (eOp gMulI (eIxB 1 (eC (.int (0)))) (eIxB 0 (eC (.int (1)))))))) (ret .next))
def FP_is_less : Fn := fun svs => finF svs (BP_is_less (envOf N_is_less svs))
theorem b_is_less : B_is_less = BP_is_less := by rfl
theorem p_is_less : F_is_less = FP_is_less := by funext svs; rw [e_is_less, b_is_less]; rfl
def GP10 : Gm := ⟨("is_less", .fn 2 [false, false] FP_is_less) :: GP9.tab, fu, xms⟩
theorem gp10 : G10 = GP10 := by unfold G10 GP10; rw [p_is_less, gp9]
def B_is_at_most : M O := (sSeq (sRetU (uVal (eOp gLe (eOp gMulI (eIxB 0 (eC (.int (0)))) (eIxB 1 (eC (.int (1))))) (eOp gMulI (eIxB 1 (eC (.int (0)))) (eIxB 0 (eC (.int (1)))))))) (ret .next))
theorem e_is_at_most (svs : List SV) : F_is_at_most svs = finF svs (B_is_at_most (envOf N_is_at_most svs)) := by kernel_rfl
def BP_is_at_most : M O := (sSeq (sRetU (uVal (eOp gLe (eOp gMulI (eIxB 0 (eC (.int (0)))) (eIxB 1 (eC (.int (1))))) (eOp gMulI (eIxB 1 (eC (.int (0)))) (eIxB 0 (eC (.int (1)))))))) (ret .next))
def FP_is_at_most : Fn := fun svs => finF svs (BP_is_at_most (envOf N_is_at_most svs))
theorem b_is_at_most : B_is_at_most = BP_is_at_most := by rfl
theorem p_is_at_most : F_is_at_most = FP_is_at_most := by funext svs; rw [e_is_at_most, b_is_at_most]; rfl
def GP11 : Gm := ⟨("is_at_most", .fn 2 [false, false] FP_is_at_most) :: GP10.tab, fu, xms⟩
theorem gp11 : G11 = GP11 := by unfold G11 GP11; rw [p_is_at_most, gp10]
def B_is_fraction : M O := (sSeq (sIf (tOrM (tNotM (eTru (eCallL [false] 1 F_is_pair (aCons (aRefV 0) (aNil))))) (tOrM (tNotM (eTru (eCall 1 F_is_whole (aCons (aVal (eIxB 0 (eC (.int (0))))) (aNil))))) (tOrM (tNotM (eTru (eCall 1 F_is_whole (aCons (aVal (eIxB 0 (eC (.int (1))))) (aNil))))) (eTB (eOp gLt (eIxB 0 (eC (.int (1)))) (eC (.int (1)))))))) (sSeq (sRetU (uVal (eC (.bl false)))) (ret .next)) (ret .next)) (sSeq (sRetU (uVal (eOp gEq (eCall 2 F_common_divisor (aCons (aVal (eIxB 0 (eC (.int (0))))) (aCons (aVal (eIxB 0 (eC (.int (1))))) (aNil)))) (eC (.int (1)))))) (ret .next)))
theorem e_is_fraction (svs : List SV) : F_is_fraction svs = finF svs (B_is_fraction (envOf N_is_fraction svs)) := by kernel_rfl
def BP_is_fraction : M O := (sSeq (sIf (tOrM (tNotM (eTru (eCallL [false] 1 FP_is_pair (aCons (aRefV 0) (aNil))))) (tOrM (tNotM (eTru (eCall 1 FP_is_whole (aCons (aVal (eIxB 0 (eC (.int (0))))) (aNil))))) (tOrM (tNotM (eTru (eCall 1 FP_is_whole (aCons (aVal (eIxB 0 (eC (.int (1))))) (aNil))))) (eTB (eOp gLt (eIxB 0 (eC (.int (1)))) (eC (.int (1)))))))) (sSeq (sRetU (uVal (eC (.bl false)))) (ret .next)) (ret .next)) (sSeq (sRetU (uVal (eOp gEq (eCall 2 FP_common_divisor (aCons (aVal (eIxB 0 (eC (.int (0))))) (aCons (aVal (eIxB 0 (eC (.int (1))))) (aNil)))) (eC (.int (1)))))) (ret .next)))
def FP_is_fraction : Fn := fun svs => finF svs (BP_is_fraction (envOf N_is_fraction svs))
theorem b_is_fraction : B_is_fraction = BP_is_fraction := by unfold B_is_fraction BP_is_fraction; simp only [p_common_divisor, p_is_pair, p_is_whole]
theorem p_is_fraction : F_is_fraction = FP_is_fraction := by funext svs; rw [e_is_fraction, b_is_fraction]; rfl
def GP12 : Gm := ⟨("is_fraction", .fn 1 [false] FP_is_fraction) :: GP11.tab, fu, xms⟩
theorem gp12 : G12 = GP12 := by unfold G12 GP12; rw [p_is_fraction, gp11]
def B_is_near_fraction : M O := (sSeq (sRetU (uVal (eAndV (eCallL [false] 1 F_is_fraction (aCons (aRefV 0) (aNil))) (eAndV (eCall 1 F_is_near (aCons (aVal (eIxB 0 (eC (.int (0))))) (aNil))) (eCall 1 F_is_near (aCons (aVal (eIxB 0 (eC (.int (1))))) (aNil))))))) (ret .next))
theorem e_is_near_fraction (svs : List SV) : F_is_near_fraction svs = finF svs (B_is_near_fraction (envOf N_is_near_fraction svs)) := by kernel_rfl
def BP_is_near_fraction : M O := (sSeq (sRetU (uVal (eAndV (eCallL [false] 1 FP_is_fraction (aCons (aRefV 0) (aNil))) (eAndV (eCall 1 FP_is_near (aCons (aVal (eIxB 0 (eC (.int (0))))) (aNil))) (eCall 1 FP_is_near (aCons (aVal (eIxB 0 (eC (.int (1))))) (aNil))))))) (ret .next))
def FP_is_near_fraction : Fn := fun svs => finF svs (BP_is_near_fraction (envOf N_is_near_fraction svs))
theorem b_is_near_fraction : B_is_near_fraction = BP_is_near_fraction := by unfold B_is_near_fraction BP_is_near_fraction; simp only [p_is_fraction, p_is_near]
theorem p_is_near_fraction : F_is_near_fraction = FP_is_near_fraction := by funext svs; rw [e_is_near_fraction, b_is_near_fraction]; rfl
def GP13 : Gm := ⟨("is_near_fraction", .fn 1 [false] FP_is_near_fraction) :: GP12.tab, fu, xms⟩
theorem gp13 : G13 = GP13 := by unfold G13 GP13; rw [p_is_near_fraction, gp12]
def B_quotient : M O := (sSeq (sRetU (uCall 2 F_fraction (aCons (aVal (eOp gMulI (eIxB 0 (eC (.int (0)))) (eIxB 1 (eC (.int (1)))))) (aCons (aVal (eOp gMulI (eIxB 0 (eC (.int (1)))) (eIxB 1 (eC (.int (0)))))) (aNil))))) (ret .next))
theorem e_quotient (svs : List SV) : F_quotient svs = finF svs (B_quotient (envOf N_quotient svs)) := by kernel_rfl
def BP_quotient : M O := (sSeq (sRetU (uCall 2 FP_fraction (aCons (aVal (eOp gMulI (eIxB 0 (eC (.int (0)))) (eIxB 1 (eC (.int (1)))))) (aCons (aVal (eOp gMulI (eIxB 0 (eC (.int (1)))) (eIxB 1 (eC (.int (0)))))) (aNil))))) (ret .next))
def FP_quotient : Fn := fun svs => finF svs (BP_quotient (envOf N_quotient svs))
theorem b_quotient : B_quotient = BP_quotient := by unfold B_quotient BP_quotient; simp only [p_fraction]
theorem p_quotient : F_quotient = FP_quotient := by funext svs; rw [e_quotient, b_quotient]; rfl
def GP14 : Gm := ⟨("quotient", .fn 2 [false, false] FP_quotient) :: GP13.tab, fu, xms⟩
theorem gp14 : G14 = GP14 := by unfold G14 GP14; rw [p_quotient, gp13]
def B_is_step_in : M O := (sSeq (sIf (tOrM (tNotM (eTru (eCallL [false] 1 F_is_fraction (aCons (aRefV 0) (aNil))))) (tOrM (tNotM (eTru (eCallL [false, false] 2 F_is_less (aCons (aVal (eTup (eCons (eC (.int (0))) (eCons (eC (.int (1))) (eNil))))) (aCons (aRefV 0) (aNil)))))) (tNotM (eTru (eCallL [false, false] 2 F_is_at_most (aCons (aRefV 0) (aCons (aVal (eTup (eCons (eC (.int (1))) (eCons (eC (.int (1))) (eNil))))) (aNil)))))))) (sSeq (sRetU (uVal (eC (.bl false)))) (ret .next)) (ret .next)) (sSeq (sRetU (uVal (eOp gLe (eIxB 0 (eC (.int (1)))) (eC (.int (1000)))))) (ret .next)))
theorem e_is_step_in (svs : List SV) : F_is_step_in svs = finF svs (B_is_step_in (envOf N_is_step_in svs)) := by kernel_rfl
def BP_is_step_in : M O := (sSeq (sIf (tOrM (tNotM (eTru (eCallL [false] 1 FP_is_fraction (aCons (aRefV 0) (aNil))))) (tOrM (tNotM (eTru (eCallL [false, false] 2 FP_is_less (aCons (aVal (eTup (eCons (eC (.int (0))) (eCons (eC (.int (1))) (eNil))))) (aCons (aRefV 0) (aNil)))))) (tNotM (eTru (eCallL [false, false] 2 FP_is_at_most (aCons (aRefV 0) (aCons (aVal (eTup (eCons (eC (.int (1))) (eCons (eC (.int (1))) (eNil))))) (aNil)))))))) (sSeq (sRetU (uVal (eC (.bl false)))) (ret .next)) (ret .next)) (sSeq (sRetU (uVal (eOp gLe (eIxB 0 (eC (.int (1)))) (eC (.int (1000)))))) (ret .next)))
def FP_is_step_in : Fn := fun svs => finF svs (BP_is_step_in (envOf N_is_step_in svs))
theorem b_is_step_in : B_is_step_in = BP_is_step_in := by unfold B_is_step_in BP_is_step_in; simp only [p_is_at_most, p_is_fraction, p_is_less]
theorem p_is_step_in : F_is_step_in = FP_is_step_in := by funext svs; rw [e_is_step_in, b_is_step_in]; rfl
def GP15 : Gm := ⟨("is_step_in", .fn 1 [false] FP_is_step_in) :: GP14.tab, fu, xms⟩
theorem gp15 : G15 = GP15 := by unfold G15 GP15; rw [p_is_step_in, gp14]
def B_is_way_in : M O := (sSeq (sIf (tOrM (tNotM (eTru (eIsi "tuple" (eVar 0)))) (tOrM (eTB (eOpL gEq 0 (eTup (eNil)))) (tNotM (eTru (eIsi "str" (eIxB 0 (eC (.int (0))))))))) (sSeq (sRetU (uVal (eC (.bl false)))) (ret .next)) (ret .next)) (sSeq (sIf (eTB (eOp gIn (eVar 0) (eTup (eCons (eC (.tup [(.str "up")])) (eCons (eC (.tup [(.str "harmonic")])) (eCons (eC (.tup [(.str "geometric")])) (eNil))))))) (sSeq (sRetU (uVal (eC (.bl true)))) (ret .next)) (ret .next)) (sSeq (sRetU (uVal (eAndV (eCallL [false] 1 F_is_pair (aCons (aRefV 0) (aNil))) (eAndV (eOp gEq (eIxB 0 (eC (.int (0)))) (eC (.str "step"))) (eCall 1 F_is_step_in (aCons (aVal (eIxB 0 (eC (.int (1))))) (aNil))))))) (ret .next))))
theorem e_is_way_in (svs : List SV) : F_is_way_in svs = finF svs (B_is_way_in (envOf N_is_way_in svs)) := by kernel_rfl
def BP_is_way_in : M O := (sSeq (sIf (tOrM (tNotM (eTru (eIsi "tuple" (eVar 0)))) (tOrM (eTB (eOpL gEq 0 (eTup (eNil)))) (tNotM (eTru (eIsi "str" (eIxB 0 (eC (.int (0))))))))) (sSeq (sRetU (uVal (eC (.bl false)))) (ret .next)) (ret .next)) (sSeq (sIf (eTB (eOp gIn (eVar 0) (eTup (eCons (eC (.tup [(.str "up")])) (eCons (eC (.tup [(.str "harmonic")])) (eCons (eC (.tup [(.str "geometric")])) (eNil))))))) (sSeq (sRetU (uVal (eC (.bl true)))) (ret .next)) (ret .next)) (sSeq (sRetU (uVal (eAndV (eCallL [false] 1 FP_is_pair (aCons (aRefV 0) (aNil))) (eAndV (eOp gEq (eIxB 0 (eC (.int (0)))) (eC (.str "step"))) (eCall 1 FP_is_step_in (aCons (aVal (eIxB 0 (eC (.int (1))))) (aNil))))))) (ret .next))))
def FP_is_way_in : Fn := fun svs => finF svs (BP_is_way_in (envOf N_is_way_in svs))
theorem b_is_way_in : B_is_way_in = BP_is_way_in := by unfold B_is_way_in BP_is_way_in; simp only [p_is_pair, p_is_step_in]
theorem p_is_way_in : F_is_way_in = FP_is_way_in := by funext svs; rw [e_is_way_in, b_is_way_in]; rfl
def GP16 : Gm := ⟨("is_way_in", .fn 1 [false] FP_is_way_in) :: GP15.tab, fu, xms⟩
theorem gp16 : G16 = GP16 := by unfold G16 GP16; rw [p_is_way_in, gp15]
def B_has_nought_in : M O := (sSeq (sRetU (uVal (eOp gNe (eIxB 0 (eC (.int (0)))) (eC (.str "step"))))) (ret .next))
theorem e_has_nought_in (svs : List SV) : F_has_nought_in svs = finF svs (B_has_nought_in (envOf N_has_nought_in svs)) := by kernel_rfl
def BP_has_nought_in : M O := (sSeq (sRetU (uVal (eOp gNe (eIxB 0 (eC (.int (0)))) (eC (.str "step"))))) (ret .next))
def FP_has_nought_in : Fn := fun svs => finF svs (BP_has_nought_in (envOf N_has_nought_in svs))
theorem b_has_nought_in : B_has_nought_in = BP_has_nought_in := by rfl
theorem p_has_nought_in : F_has_nought_in = FP_has_nought_in := by funext svs; rw [e_has_nought_in, b_has_nought_in]; rfl
def GP17 : Gm := ⟨("has_nought_in", .fn 1 [false] FP_has_nought_in) :: GP16.tab, fu, xms⟩
theorem gp17 : G17 = GP17 := by unfold G17 GP17; rw [p_has_nought_in, gp16]
def B_require_way : M O := (sSeq (sIf (tNotM (eTru (eCallL [false] 1 F_is_way_in (aCons (aRefV 0) (aNil))))) (sSeq (sRaise0 "InvalidWay") (ret .next)) (ret .next)) (ret .next))
theorem e_require_way (svs : List SV) : F_require_way svs = finF svs (B_require_way (envOf N_require_way svs)) := by kernel_rfl
def BP_require_way : M O := (sSeq (sIf (tNotM (eTru (eCallL [false] 1 FP_is_way_in (aCons (aRefV 0) (aNil))))) (sSeq (sRaise0 "InvalidWay") (ret .next)) (ret .next)) (ret .next))
def FP_require_way : Fn := fun svs => finF svs (BP_require_way (envOf N_require_way svs))
theorem b_require_way : B_require_way = BP_require_way := by unfold B_require_way BP_require_way; simp only [p_is_way_in]
theorem p_require_way : F_require_way = FP_require_way := by funext svs; rw [e_require_way, b_require_way]; rfl
def GP18 : Gm := ⟨("require_way", .fn 1 [false] FP_require_way) :: GP17.tab, fu, xms⟩
theorem gp18 : G18 = GP18 := by unfold G18 GP18; rw [p_require_way, gp17]
def B_possible_in : M O := (sSeq (sSetU 4 (uCallL [false, false] 2 F_plus (aCons (aVal (eTup (eCons (eOp gSub (eVar 3) (eC (.int (1)))) (eCons (eC (.int (1))) (eNil))))) (aCons (aRefV 0) (aNil))))) (sSeq (sRetU (uCallL [false, false] 2 F_quotient (aCons (aRefV 4) (aCons (aVal (eCall 2 F_plus (aCons (aVal (eTup (eCons (eOp gSub (eVar 2) (eC (.int (1)))) (eCons (eC (.int (1))) (eNil))))) (aCons (aVal (eCallL [false, false] 2 F_times (aCons (aVal (eTup (eCons (eVar 1) (eCons (eC (.int (1))) (eNil))))) (aCons (aRefV 0) (aNil))))) (aNil))))) (aNil))))) (ret .next)))
theorem e_possible_in (svs : List SV) : F_possible_in svs = finF svs (B_possible_in (envOf N_possible_in svs)) := by kernel_rfl
def BP_possible_in : M O := (sSeq (sSetU 4 (uCallL [false, false] 2 FP_plus (aCons (aVal (eTup (eCons (eOp gSub (eVar 3) (eC (.int (1)))) (eCons (eC (.int (1))) (eNil))))) (aCons (aRefV 0) (aNil))))) (sSeq (sRetU (uCallL [false, false] 2 FP_quotient (aCons (aRefV 4) (aCons (aVal (eCall 2 FP_plus (aCons (aVal (eTup (eCons (eOp gSub (eVar 2) (eC (.int (1)))) (eCons (eC (.int (1))) (eNil))))) (aCons (aVal (eCallL [false, false] 2 FP_times (aCons (aVal (eTup (eCons (eVar 1) (eCons (eC (.int (1))) (eNil))))) (aCons (aRefV 0) (aNil))))) (aNil))))) (aNil))))) (ret .next)))
def FP_possible_in : Fn := fun svs => finF svs (BP_possible_in (envOf N_possible_in svs))
theorem b_possible_in : B_possible_in = BP_possible_in := by unfold B_possible_in BP_possible_in; simp only [p_plus, p_quotient, p_times]
theorem p_possible_in : F_possible_in = FP_possible_in := by funext svs; rw [e_possible_in, b_possible_in]; rfl
def GP19 : Gm := ⟨("possible_in", .fn 4 [false, false, false, false] FP_possible_in) :: GP18.tab, fu, xms⟩
theorem gp19 : G19 = GP19 := by unfold G19 GP19; rw [p_possible_in, gp18]
def B_with_seats : M O := (sSeq (sRetU (uVal (eFn gMin (eCons (eOp gSub (eVar 0) (eC (.int (1)))) (eCons (eOp gAdd (eOp gSub (eVar 1) (eVar 2)) (eC (.int (1)))) (eNil)))))) (ret .next))
theorem e_with_seats (svs : List SV) : F_with_seats svs = finF svs (B_with_seats (envOf N_with_seats svs)) := by kernel_rfl
def BP_with_seats : M O := (sSeq (sRetU (uVal (eFn gMin (eCons (eOp gSub (eVar 0) (eC (.int (1)))) (eCons (eOp gAdd (eOp gSub (eVar 1) (eVar 2)) (eC (.int (1)))) (eNil)))))) (ret .next))
def FP_with_seats : Fn := fun svs => finF svs (BP_with_seats (envOf N_with_seats svs))
theorem b_with_seats : B_with_seats = BP_with_seats := by rfl
theorem p_with_seats : F_with_seats = FP_with_seats := by funext svs; rw [e_with_seats, b_with_seats]; rfl
def GP20 : Gm := ⟨("with_seats", .fn 3 [false, false, false] FP_with_seats) :: GP19.tab, fu, xms⟩
theorem gp20 : G20 = GP20 := by unfold G20 GP20; rw [p_with_seats, gp19]
def B_sure_in : M O := (sSeq (sPar2 4 5 (uCons (uCallL [false, false] 2 F_plus (aCons (aVal (eTup (eCons (eOp gSub (eVar 3) (eC (.int (1)))) (eCons (eC (.int (1))) (eNil))))) (aCons (aRefV 0) (aNil)))) (uCons (uCallL [false, false, false] 3 F_with_seats (aCons (aRefV 1) (aCons (aRefV 2) (aCons (aRefV 3) (aNil))))) (uNil)))) (sSeq (sRetU (uCallL [false, false] 2 F_quotient (aCons (aRefV 4) (aCons (aVal (eCall 2 F_minus (aCons (aVal (eCallL [false, false] 2 F_plus (aCons (aVal (eTup (eCons (eVar 2) (eCons (eC (.int (1))) (eNil))))) (aCons (aRefV 0) (aNil))))) (aCons (aVal (eCall 2 F_times (aCons (aVal (eTup (eCons (eVar 5) (eCons (eC (.int (1))) (eNil))))) (aCons (aVal (eCallL [false, false] 2 F_minus (aCons (aVal (eTup (eCons (eC (.int (1))) (eCons (eC (.int (1))) (eNil))))) (aCons (aRefV 0) (aNil))))) (aNil))))) (aNil))))) (aNil))))) (ret .next)))
theorem e_sure_in (svs : List SV) : F_sure_in svs = finF svs (B_sure_in (envOf N_sure_in svs)) := by kernel_rfl
def BP_sure_in : M O := (sSeq (sPar2 4 5 (uCons (uCallL [false, false] 2 FP_plus (aCons (aVal (eTup (eCons (eOp gSub (eVar 3) (eC (.int (1)))) (eCons (eC (.int (1))) (eNil))))) (aCons (aRefV 0) (aNil)))) (uCons (uCallL [false, false, false] 3 FP_with_seats (aCons (aRefV 1) (aCons (aRefV 2) (aCons (aRefV 3) (aNil))))) (uNil)))) (sSeq (sRetU (uCallL [false, false] 2 FP_quotient (aCons (aRefV 4) (aCons (aVal (eCall 2 FP_minus (aCons (aVal (eCallL [false, false] 2 FP_plus (aCons (aVal (eTup (eCons (eVar 2) (eCons (eC (.int (1))) (eNil))))) (aCons (aRefV 0) (aNil))))) (aCons (aVal (eCall 2 FP_times (aCons (aVal (eTup (eCons (eVar 5) (eCons (eC (.int (1))) (eNil))))) (aCons (aVal (eCallL [false, false] 2 FP_minus (aCons (aVal (eTup (eCons (eC (.int (1))) (eCons (eC (.int (1))) (eNil))))) (aCons (aRefV 0) (aNil))))) (aNil))))) (aNil))))) (aNil))))) (ret .next)))
def FP_sure_in : Fn := fun svs => finF svs (BP_sure_in (envOf N_sure_in svs))
theorem b_sure_in : B_sure_in = BP_sure_in := by unfold B_sure_in BP_sure_in; simp only [p_minus, p_plus, p_quotient, p_times, p_with_seats]
theorem p_sure_in : F_sure_in = FP_sure_in := by funext svs; rw [e_sure_in, b_sure_in]; rfl
def GP21 : Gm := ⟨("sure_in", .fn 4 [false, false, false, false] FP_sure_in) :: GP20.tab, fu, xms⟩
theorem gp21 : G21 = GP21 := by unfold G21 GP21; rw [p_sure_in, gp20]
def B_is_sure : M O := (sSeq (sSetU 5 (uCallL [false, false, false, false] 4 F_sure_in (aCons (aRefV 0) (aCons (aRefV 1) (aCons (aRefV 2) (aCons (aRefV 3) (aNil))))))) (sSeq (sRetU (uVal (eOrV (eCallL [false, false] 2 F_is_less (aCons (aRefV 5) (aCons (aRefV 4) (aNil)))) (eAndV (eOpL gEq 5 (eVar 4)) (eOp gGt (eOp gSub (eVar 1) (eC (.int (1)))) (eOp gAdd (eOp gSub (eVar 2) (eVar 3)) (eC (.int (1))))))))) (ret .next)))
theorem e_is_sure (svs : List SV) : F_is_sure svs = finF svs (B_is_sure (envOf N_is_sure svs)) := by kernel_rfl
def BP_is_sure : M O := (sSeq (sSetU 5 (uCallL [false, false, false, false] 4 FP_sure_in (aCons (aRefV 0) (aCons (aRefV 1) (aCons (aRefV 2) (aCons (aRefV 3) (aNil))))))) (sSeq (sRetU (uVal (eOrV (eCallL [false, false] 2 FP_is_less (aCons (aRefV 5) (aCons (aRefV 4) (aNil)))) (eAndV (eOpL gEq 5 (eVar 4)) (eOp gGt (eOp gSub (eVar 1) (eC (.int (1)))) (eOp gAdd (eOp gSub (eVar 2) (eVar 3)) (eC (.int (1))))))))) (ret .next)))
def FP_is_sure : Fn := fun svs => finF svs (BP_is_sure (envOf N_is_sure svs))
theorem b_is_sure : B_is_sure = BP_is_sure := by unfold B_is_sure BP_is_sure; simp only [p_is_less, p_sure_in]
theorem p_is_sure : F_is_sure = FP_is_sure := by funext svs; rw [e_is_sure, b_is_sure]; rfl
def GP22 : Gm := ⟨("is_sure", .fn 5 [false, false, false, false, false] FP_is_sure) :: GP21.tab, fu, xms⟩
theorem gp22 : G22 = GP22 := by unfold G22 GP22; rw [p_is_sure, gp21]
def B_span_by : M O := (sSeq (sSetU 4 (uVal (eFn gMax (eCons (eOfF (eLc (iRng rng1 (eCons (eOp gAdd (eVar 2) (eC (.int (1)))) (eNil))) [6] (.nm 6) (tOrM (eTB (eOpL gEq 6 (eC (.int (0))))) (eTru (eCallL [false, false] 2 F_is_at_most (aCons (aVal (eCallL [false, false, false, false] 4 F_possible_in (aCons (aRefV 0) (aCons (aRefV 1) (aCons (aRefV 2) (aCons (aRefV 6) (aNil))))))) (aCons (aRefV 3) (aNil)))))) (eVar 6))) (eNil))))) (sSeq (sSetU 5 (uVal (eFn gMax (eCons (eOfF (eLc (iRng rng1 (eCons (eOp gAdd (eVar 2) (eC (.int (1)))) (eNil))) [6] (.nm 6) (tOrM (eTB (eOpL gEq 6 (eC (.int (0))))) (eTru (eCallL [false, false, false, false, false] 5 F_is_sure (aCons (aRefV 0) (aCons (aRefV 1) (aCons (aRefV 2) (aCons (aRefV 6) (aCons (aRefV 3) (aNil))))))))) (eVar 6))) (eNil))))) (sSeq (sRetU (uVal (eTup (eCons (eVar 5) (eCons (eVar 4) (eNil)))))) (ret .next))))
theorem e_span_by (svs : List SV) : F_span_by svs = finF svs (B_span_by (envOf N_span_by svs)) := by kernel_rfl
def BP_span_by : M O := (sSeq (sSetU 4 (uVal (eFn gMax (eCons (eOfF (eLc (iRng rng1 (eCons (eOp gAdd (eVar 2) (eC (.int (1)))) (eNil))) [6] (.nm 6) (tOrM (eTB (eOpL gEq 6 (eC (.int (0))))) (eTru (eCallL [false, false] 2 FP_is_at_most (aCons (aVal (eCallL [false, false, false, false] 4 FP_possible_in (aCons (aRefV 0) (aCons (aRefV 1) (aCons (aRefV 2) (aCons (aRefV 6) (aNil))))))) (aCons (aRefV 3) (aNil)))))) (eVar 6))) (eNil))))) (sSeq (sSetU 5 (uVal (eFn gMax (eCons (eOfF (eLc (iRng rng1 (eCons (eOp gAdd (eVar 2) (eC (.int (1)))) (eNil))) [6] (.nm 6) (tOrM (eTB (eOpL gEq 6 (eC (.int (0))))) (eTru (eCallL [false, false, false, false, false] 5 FP_is_sure (aCons (aRefV 0) (aCons (aRefV 1) (aCons (aRefV 2) (aCons (aRefV 6) (aCons (aRefV 3) (aNil))))))))) (eVar 6))) (eNil))))) (sSeq (sRetU (uVal (eTup (eCons (eVar 5) (eCons (eVar 4) (eNil)))))) (ret .next))))
def FP_span_by : Fn := fun svs => finF svs (BP_span_by (envOf N_span_by svs))
theorem b_span_by : B_span_by = BP_span_by := by unfold B_span_by BP_span_by; simp only [p_is_at_most, p_is_sure, p_possible_in]
theorem p_span_by : F_span_by = FP_span_by := by funext svs; rw [e_span_by, b_span_by]; rfl
def GP23 : Gm := ⟨("span_by", .fn 4 [false, false, false, false] FP_span_by) :: GP22.tab, fu, xms⟩
theorem gp23 : G23 = GP23 := by unfold G23 GP23; rw [p_span_by, gp22]
def B_require_step_way : M O := (sSeq (sExpr (eCallL [false] 1 F_require_way (aCons (aRefV 0) (aNil)))) (sSeq (sIf (eTru (eCallL [false] 1 F_has_nought_in (aCons (aRefV 0) (aNil)))) (sSeq (sRaise0 "InvalidOperation") (ret .next)) (ret .next)) (ret .next)))
theorem e_require_step_way (svs : List SV) : F_require_step_way svs = finF svs (B_require_step_way (envOf N_require_step_way svs)) := by kernel_rfl
def BP_require_step_way : M O := (sSeq (sExpr (eCallL [false] 1 FP_require_way (aCons (aRefV 0) (aNil)))) (sSeq (sIf (eTru (eCallL [false] 1 FP_has_nought_in (aCons (aRefV 0) (aNil)))) (sSeq (sRaise0 "InvalidOperation") (ret .next)) (ret .next)) (ret .next)))
def FP_require_step_way : Fn := fun svs => finF svs (BP_require_step_way (envOf N_require_step_way svs))
theorem b_require_step_way : B_require_step_way = BP_require_step_way := by unfold B_require_step_way BP_require_step_way; simp only [p_has_nought_in, p_require_way]
theorem p_require_step_way : F_require_step_way = FP_require_step_way := by funext svs; rw [e_require_step_way, b_require_step_way]; rfl
def GP24 : Gm := ⟨("require_step_way", .fn 1 [false] FP_require_step_way) :: GP23.tab, fu, xms⟩
theorem gp24 : G24 = GP24 := by unfold G24 GP24; rw [p_require_step_way, gp23]
def B_require_part : M O := (sSeq (sIf (tOrM (tNotM (eTru (eCallL [false] 1 F_is_near_fraction (aCons (aRefV 0) (aNil))))) (tOrM (tNotM (eTB (eChain gLt gLt (eC (.int (0))) (eIxB 0 (eC (.int (0)))) (eIxB 0 (eC (.int (1))))))) (eTB (eOp gGt (eIxB 0 (eC (.int (1)))) (eC (.int (1000000))))))) (sSeq (sRaise0 "InvalidOperation") (ret .next)) (ret .next)) (ret .next))
theorem e_require_part (svs : List SV) : F_require_part svs = finF svs (B_require_part (envOf N_require_part svs)) := by kernel_rfl
def BP_require_part : M O := (sSeq (sIf (tOrM (tNotM (eTru (eCallL [false] 1 FP_is_near_fraction (aCons (aRefV 0) (aNil))))) (tOrM (tNotM (eTB (eChain gLt gLt (eC (.int (0))) (eIxB 0 (eC (.int (0)))) (eIxB 0 (eC (.int (1))))))) (eTB (eOp gGt (eIxB 0 (eC (.int (1)))) (eC (.int (1000000))))))) (sSeq (sRaise0 "InvalidOperation") (ret .next)) (ret .next)) (ret .next))
def FP_require_part : Fn := fun svs => finF svs (BP_require_part (envOf N_require_part svs))
theorem b_require_part : B_require_part = BP_require_part := by unfold B_require_part BP_require_part; simp only [p_is_near_fraction]
theorem p_require_part : F_require_part = FP_require_part := by funext svs; rw [e_require_part, b_require_part]; rfl
def GP25 : Gm := ⟨("require_part", .fn 1 [false] FP_require_part) :: GP24.tab, fu, xms⟩
theorem gp25 : G25 = GP25 := by unfold G25 GP25; rw [p_require_part, gp24]
def B_seats_span : M O := (sSeq (sExpr (eCallL [false] 1 F_require_step_way (aCons (aRefV 0) (aNil)))) (sSeq (sExpr (eCallL [false, false, false] 3 F_require_number (aCons (aRefV 1) (aCons (aVal (eC (.int (2)))) (aCons (aVal (eC (.int (10)))) (aNil)))))) (sSeq (sExpr (eCallL [false, false, false] 3 F_require_number (aCons (aRefV 2) (aCons (aVal (eC (.int (1)))) (aCons (aVal (eC (.int (200)))) (aNil)))))) (sSeq (sExpr (eCallL [false] 1 F_require_part (aCons (aRefV 3) (aNil)))) (sSeq (sRetU (uCallL [false, false, false, false] 4 F_span_by (aCons (aVal (eIxB 0 (eC (.int (1))))) (aCons (aRefV 1) (aCons (aRefV 2) (aCons (aRefV 3) (aNil))))))) (ret .next))))))
theorem e_seats_span (svs : List SV) : F_seats_span svs = finF svs (B_seats_span (envOf N_seats_span svs)) := by kernel_rfl
def BP_seats_span : M O := (sSeq (sExpr (eCallL [false] 1 FP_require_step_way (aCons (aRefV 0) (aNil)))) (sSeq (sExpr (eCallL [false, false, false] 3 FP_require_number (aCons (aRefV 1) (aCons (aVal (eC (.int (2)))) (aCons (aVal (eC (.int (10)))) (aNil)))))) (sSeq (sExpr (eCallL [false, false, false] 3 FP_require_number (aCons (aRefV 2) (aCons (aVal (eC (.int (1)))) (aCons (aVal (eC (.int (200)))) (aNil)))))) (sSeq (sExpr (eCallL [false] 1 FP_require_part (aCons (aRefV 3) (aNil)))) (sSeq (sRetU (uCallL [false, false, false, false] 4 FP_span_by (aCons (aVal (eIxB 0 (eC (.int (1))))) (aCons (aRefV 1) (aCons (aRefV 2) (aCons (aRefV 3) (aNil))))))) (ret .next))))))
def FP_seats_span : Fn := fun svs => finF svs (BP_seats_span (envOf N_seats_span svs))
theorem b_seats_span : B_seats_span = BP_seats_span := by unfold B_seats_span BP_seats_span; simp only [p_require_number, p_require_part, p_require_step_way, p_span_by]
theorem p_seats_span : F_seats_span = FP_seats_span := by funext svs; rw [e_seats_span, b_seats_span]; rfl
def GP26 : Gm := ⟨("seats_span", .fn 4 [false, false, false, false] FP_seats_span) :: GP25.tab, fu, xms⟩
theorem gp26 : G26 = GP26 := by unfold G26 GP26; rw [p_seats_span, gp25]
def B_house_from : M O := (sSeq (sExpr (eCallL [false] 1 F_require_step_way (aCons (aRefV 0) (aNil)))) (sSeq (sExpr (eCallL [false, false, false] 3 F_require_number (aCons (aRefV 1) (aCons (aVal (eC (.int (2)))) (aCons (aVal (eC (.int (10)))) (aNil)))))) (sSeq (sExpr (eCallL [false] 1 F_require_part (aCons (aRefV 2) (aNil)))) (sSeq (sExpr (eCallL [false, false, false] 3 F_require_number (aCons (aRefV 3) (aCons (aVal (eC (.int (1)))) (aCons (aVal (eC (.int (200)))) (aNil)))))) (sSeq (sFor (iRng rng2 (eCons (eVar 3) (eCons (eOp gAdd (eC (.int (200))) (eC (.int (1)))) (eNil)))) (.nm 4) (sSeq (sIf (eTru (eCallL [false, false] 2 F_is_at_most (aCons (aVal (eCallL [false, false, false, false] 4 F_possible_in (aCons (aVal (eIxB 0 (eC (.int (1))))) (aCons (aRefV 1) (aCons (aRefV 4) (aCons (aRefV 3) (aNil))))))) (aCons (aRefV 2) (aNil))))) (sSeq (sRetV 4) (ret .next)) (ret .next)) (ret .next))) (sSeq (sRaise1 "Refused" (eTup (eCons (eC (.str "none")) (eNil)))) (ret .next)))))))
theorem e_house_from (svs : List SV) : F_house_from svs = finF svs (B_house_from (envOf N_house_from svs)) := by kernel_rfl
def BP_house_from : M O := (sSeq (sExpr (eCallL [false] 1 FP_require_step_way (aCons (aRefV 0) (aNil)))) (sSeq (sExpr (eCallL [false, false, false] 3 FP_require_number (aCons (aRefV 1) (aCons (aVal (eC (.int (2)))) (aCons (aVal (eC (.int (10)))) (aNil)))))) (sSeq (sExpr (eCallL [false] 1 FP_require_part (aCons (aRefV 2) (aNil)))) (sSeq (sExpr (eCallL [false, false, false] 3 FP_require_number (aCons (aRefV 3) (aCons (aVal (eC (.int (1)))) (aCons (aVal (eC (.int (200)))) (aNil)))))) (sSeq (sFor (iRng rng2 (eCons (eVar 3) (eCons (eOp gAdd (eC (.int (200))) (eC (.int (1)))) (eNil)))) (.nm 4) (sSeq (sIf (eTru (eCallL [false, false] 2 FP_is_at_most (aCons (aVal (eCallL [false, false, false, false] 4 FP_possible_in (aCons (aVal (eIxB 0 (eC (.int (1))))) (aCons (aRefV 1) (aCons (aRefV 4) (aCons (aRefV 3) (aNil))))))) (aCons (aRefV 2) (aNil))))) (sSeq (sRetV 4) (ret .next)) (ret .next)) (ret .next))) (sSeq (sRaise1 "Refused" (eTup (eCons (eC (.str "none")) (eNil)))) (ret .next)))))))
def FP_house_from : Fn := fun svs => finF svs (BP_house_from (envOf N_house_from svs))
theorem b_house_from : B_house_from = BP_house_from := by unfold B_house_from BP_house_from; simp only [p_is_at_most, p_possible_in, p_require_number, p_require_part, p_require_step_way]
theorem p_house_from : F_house_from = FP_house_from := by funext svs; rw [e_house_from, b_house_from]; rfl
def GP27 : Gm := ⟨("house_from", .fn 4 [false, false, false, false] FP_house_from) :: GP26.tab, fu, xms⟩
theorem gp27 : G27 = GP27 := by unfold G27 GP27; rw [p_house_from, gp26]
def B__law_dice : M O := (sSeq (sSetU 2 (uVal (eIf (eTB (eOpL gLt 1 (eFnO gLen 0))) (eFn gInt (eCons (eIxB 0 (eVar 1)) (eNil))) (eOp gAdd (eOp gMulI (eC (.int (97))) (eVar 1)) (eC (.int (43))))))) (sSeq (sSetU 3 (uVal (eOp gMod (eFn gMax (eCons (eC (.int (0))) (eCons (eOp gSub (eFnB gAbs 2) (eOp gPow (eC (.int (10))) (eC (.int (17))))) (eNil)))) (eOp gMulI (eOp gPow (eC (.int (10))) (eC (.int (60)))) (eOp gPow (eC (.int (10))) (eC (.int (60)))))))) (sSeq (sRetU (uOwn (eLstO (eCons (eVar 3) (eCons (eOp gAdd (eOp gAdd (eOp gAdd (eOp gMulI (eOp gMod (eFnB gAbs 2) (eC (.int (1152921504606846737)))) (eC (.int (37)))) (eOp gMulI (eC (.int (859))) (eVar 1))) (eOp gMulI (eC (.int (31))) (eFn gInt (eCons (eOpL gLt 2 (eC (.int (0)))) (eNil))))) (eC (.int (17)))) (eCons (eC (.int (0))) (eNil))))))) (ret .next))))
theorem e__law_dice (svs : List SV) : F__law_dice svs = finF svs (B__law_dice (envOf N__law_dice svs)) := by kernel_rfl
def BP__law_dice : M O := (sSeq (sSetU 2 (uVal (eIf (eTB (eOpL gLt 1 (eFnO gLen 0))) (eFn gInt (eCons (eIxB 0 (eVar 1)) (eNil))) (eOp gAdd (eOp gMulI (eC (.int (97))) (eVar 1)) (eC (.int (43))))))) (sSeq (sSetU 3 (uVal (eOp gMod (eFn gMax (eCons (eC (.int (0))) (eCons (eOp gSub (eFnB gAbs 2) (eOp gPow (eC (.int (10))) (eC (.int (17))))) (eNil)))) (eOp gMulI (eOp gPow (eC (.int (10))) (eC (.int (60)))) (eOp gPow (eC (.int (10))) (eC (.int (60)))))))) (sSeq (sRetU (uOwn (eLstO (eCons (eVar 3) (eCons (eOp gAdd (eOp gAdd (eOp gAdd (eOp gMulI (eOp gMod (eFnB gAbs 2) (eC (.int (1152921504606846737)))) (eC (.int (37)))) (eOp gMulI (eC (.int (859))) (eVar 1))) (eOp gMulI (eC (.int (31))) (eFn gInt (eCons (eOpL gLt 2 (eC (.int (0)))) (eNil))))) (eC (.int (17)))) (eCons (eC (.int (0))) (eNil))))))) (ret .next))))
def FP__law_dice : Fn := fun svs => finF svs (BP__law_dice (envOf N__law_dice svs))
theorem b__law_dice : B__law_dice = BP__law_dice := by rfl
theorem p__law_dice : F__law_dice = FP__law_dice := by funext svs; rw [e__law_dice, b__law_dice]; rfl
def GP28 : Gm := ⟨("_law_dice", .fn 2 [false, false] FP__law_dice) :: GP27.tab, fu, xms⟩
theorem gp28 : G28 = GP28 := by unfold G28 GP28; rw [p__law_dice, gp27]
def B__law_roll : M O := (sSeq (sIf (eTB (eOp gGt (eIxB 0 (eC (.int (0)))) (eC (.int (0))))) (sSeq (sSetU 4 (uVal (eOp gMod (eFn gInt (eCons (eIxB 0 (eC (.int (0)))) (eNil))) (eVar 1)))) (sSeq (sSetIx 0 (eC (.int (0))) (eOp gFdiv (eIxB 0 (eC (.int (0)))) (eVar 1))) (sSeq (sRetV 4) (ret .next)))) (ret .next)) (sSeq (sSetIx 0 (eC (.int (2))) (eOp gAdd (eIxB 0 (eC (.int (2)))) (eC (.int (1))))) (sSeq (sSetU 2 (uVal (eOp gMod (eFn gInt (eCons (eOp gAdd (eIxB 0 (eC (.int (1)))) (eOp gMulI (eC (.int (15486209))) (eIxB 0 (eC (.int (2)))))) (eNil))) (eC (.int (2305843009213693951)))))) (sSeq (sSetU 3 (uVal (eOp gAdd (eOp gMulI (eOp gMod (eFn gInt (eCons (eOp gAdd (eOp gMulI (eVar 2) (eVar 2)) (eOp gMulI (eC (.int (199))) (eIxB 0 (eC (.int (2)))))) (eNil))) (eC (.int (2305843009213693907)))) (eC (.int (7368751)))) (eVar 2)))) (sSeq (sRetU (uVal (eOp gMod (eFn gInt (eCons (eOp gFdiv (eVar 3) (eC (.int (65536)))) (eNil))) (eVar 1)))) (ret .next))))))
theorem e__law_roll (svs : List SV) : F__law_roll svs = finF svs (B__law_roll (envOf N__law_roll svs)) := by kernel_rfl
def BP__law_roll : M O := (sSeq (sIf (eTB (eOp gGt (eIxB 0 (eC (.int (0)))) (eC (.int (0))))) (sSeq (sSetU 4 (uVal (eOp gMod (eFn gInt (eCons (eIxB 0 (eC (.int (0)))) (eNil))) (eVar 1)))) (sSeq (sSetIx 0 (eC (.int (0))) (eOp gFdiv (eIxB 0 (eC (.int (0)))) (eVar 1))) (sSeq (sRetV 4) (ret .next)))) (ret .next)) (sSeq (sSetIx 0 (eC (.int (2))) (eOp gAdd (eIxB 0 (eC (.int (2)))) (eC (.int (1))))) (sSeq (sSetU 2 (uVal (eOp gMod (eFn gInt (eCons (eOp gAdd (eIxB 0 (eC (.int (1)))) (eOp gMulI (eC (.int (15486209))) (eIxB 0 (eC (.int (2)))))) (eNil))) (eC (.int (2305843009213693951)))))) (sSeq (sSetU 3 (uVal (eOp gAdd (eOp gMulI (eOp gMod (eFn gInt (eCons (eOp gAdd (eOp gMulI (eVar 2) (eVar 2)) (eOp gMulI (eC (.int (199))) (eIxB 0 (eC (.int (2)))))) (eNil))) (eC (.int (2305843009213693907)))) (eC (.int (7368751)))) (eVar 2)))) (sSeq (sRetU (uVal (eOp gMod (eFn gInt (eCons (eOp gFdiv (eVar 3) (eC (.int (65536)))) (eNil))) (eVar 1)))) (ret .next))))))
def FP__law_roll : Fn := fun svs => finF svs (BP__law_roll (envOf N__law_roll svs))
theorem b__law_roll : B__law_roll = BP__law_roll := by rfl
theorem p__law_roll : F__law_roll = FP__law_roll := by funext svs; rw [e__law_roll, b__law_roll]; rfl
def GP29 : Gm := ⟨("_law_roll", .fn 2 [true, false] FP__law_roll) :: GP28.tab, fu, xms⟩
theorem gp29 : G29 = GP29 := by unfold G29 GP29; rw [p__law_roll, gp28]
def B__law_pick : M O := (sSeq (sRetU (uVal (eIxB 1 (eCall 2 F__law_roll (aCons (aRefV 0) (aCons (aVal (eFnO gLen 1)) (aNil))))))) (ret .next))
theorem e__law_pick (svs : List SV) : F__law_pick svs = finF svs (B__law_pick (envOf N__law_pick svs)) := by kernel_rfl
def BP__law_pick : M O := (sSeq (sRetU (uVal (eIxB 1 (eCall 2 FP__law_roll (aCons (aRefV 0) (aCons (aVal (eFnO gLen 1)) (aNil))))))) (ret .next))
def FP__law_pick : Fn := fun svs => finF svs (BP__law_pick (envOf N__law_pick svs))
theorem b__law_pick : B__law_pick = BP__law_pick := by unfold B__law_pick BP__law_pick; simp only [p__law_roll]
theorem p__law_pick : F__law_pick = FP__law_pick := by funext svs; rw [e__law_pick, b__law_pick]; rfl
def GP30 : Gm := ⟨("_law_pick", .fn 2 [true, false] FP__law_pick) :: GP29.tab, fu, xms⟩
theorem gp30 : G30 = GP30 := by unfold G30 GP30; rw [p__law_pick, gp29]
def B__law_divisor : M O := (sSeq (sPar2 0 1 (uCons (uVal (eFnB gAbs 0)) (uCons (uVal (eFnB gAbs 1)) (uNil)))) (sSeq (whileN (eTB (eOpL gGt 1 (eC (.int (0))))) (sSeq (sPar2 0 1 (uCons (uVal (eVar 1)) (uCons (uVal (eOp gMod (eFnB gInt 0) (eVar 1))) (uNil)))) (ret .next)) 1000000) (sSeq (sRetV 0) (ret .next))))
theorem e__law_divisor (svs : List SV) : F__law_divisor svs = finF svs (B__law_divisor (envOf N__law_divisor svs)) := by kernel_rfl
def BP__law_divisor : M O := (sSeq (sPar2 0 1 (uCons (uVal (eFnB gAbs 0)) (uCons (uVal (eFnB gAbs 1)) (uNil)))) (sSeq (whileN (eTB (eOpL gGt 1 (eC (.int (0))))) (sSeq (sPar2 0 1 (uCons (uVal (eVar 1)) (uCons (uVal (eOp gMod (eFnB gInt 0) (eVar 1))) (uNil)))) (ret .next)) 1000000) (sSeq (sRetV 0) (ret .next))))
def FP__law_divisor : Fn := fun svs => finF svs (BP__law_divisor (envOf N__law_divisor svs))
theorem b__law_divisor : B__law_divisor = BP__law_divisor := by rfl
theorem p__law_divisor : F__law_divisor = FP__law_divisor := by funext svs; rw [e__law_divisor, b__law_divisor]; rfl
def GP31 : Gm := ⟨("_law_divisor", .fn 2 [false, false] FP__law_divisor) :: GP30.tab, fu, xms⟩
theorem gp31 : G31 = GP31 := by unfold G31 GP31; rw [p__law_divisor, gp30]
def B__law_fraction : M O := (sSeq (sSetU 2 (uVal (eOp gMulI (eCallL [false, false] 2 F__law_divisor (aCons (aRefV 0) (aCons (aRefV 1) (aNil)))) (eIf (eTB (eOpL gGt 1 (eC (.int (0))))) (eC (.int (1))) (eUn gNeg (eC (.int (1)))))))) (sSeq (sRetU (uVal (eTup (eCons (eOp gFdiv (eVar 0) (eVar 2)) (eCons (eOp gFdiv (eVar 1) (eVar 2)) (eNil)))))) (ret .next)))
theorem e__law_fraction (svs : List SV) : F__law_fraction svs = finF svs (B__law_fraction (envOf N__law_fraction svs)) := by kernel_rfl
def BP__law_fraction : M O := (sSeq (sSetU 2 (uVal (eOp gMulI (eCallL [false, false] 2 FP__law_divisor (aCons (aRefV 0) (aCons (aRefV 1) (aNil)))) (eIf (eTB (eOpL gGt 1 (eC (.int (0))))) (eC (.int (1))) (eUn gNeg (eC (.int (1)))))))) (sSeq (sRetU (uVal (eTup (eCons (eOp gFdiv (eVar 0) (eVar 2)) (eCons (eOp gFdiv (eVar 1) (eVar 2)) (eNil)))))) (ret .next)))
def FP__law_fraction : Fn := fun svs => finF svs (BP__law_fraction (envOf N__law_fraction svs))
theorem b__law_fraction : B__law_fraction = BP__law_fraction := by unfold B__law_fraction BP__law_fraction; simp only [p__law_divisor]
theorem p__law_fraction : F__law_fraction = FP__law_fraction := by funext svs; rw [e__law_fraction, b__law_fraction]; rfl
def GP32 : Gm := ⟨("_law_fraction", .fn 2 [false, false] FP__law_fraction) :: GP31.tab, fu, xms⟩
theorem gp32 : G32 = GP32 := by unfold G32 GP32; rw [p__law_fraction, gp31]
def B__law_fr_less : M O := (sSeq (sRetU (uVal (eOp gLt (eOp gMulI (eIxB 0 (eC (.int (0)))) (eIxB 1 (eC (.int (1))))) (eOp gMulI (eIxB 1 (eC (.int (0)))) (eIxB 0 (eC (.int (1)))))))) (ret .next))
theorem e__law_fr_less (svs : List SV) : F__law_fr_less svs = finF svs (B__law_fr_less (envOf N__law_fr_less svs)) := by kernel_rfl
def BP__law_fr_less : M O := (sSeq (sRetU (uVal (eOp gLt (eOp gMulI (eIxB 0 (eC (.int (0)))) (eIxB 1 (eC (.int (1))))) (eOp gMulI (eIxB 1 (eC (.int (0)))) (eIxB 0 (eC (.int (1)))))))) (ret .next))
def FP__law_fr_less : Fn := fun svs => finF svs (BP__law_fr_less (envOf N__law_fr_less svs))
theorem b__law_fr_less : B__law_fr_less = BP__law_fr_less := by rfl
theorem p__law_fr_less : F__law_fr_less = FP__law_fr_less := by funext svs; rw [e__law_fr_less, b__law_fr_less]; rfl
def GP33 : Gm := ⟨("_law_fr_less", .fn 2 [false, false] FP__law_fr_less) :: GP32.tab, fu, xms⟩
theorem gp33 : G33 = GP33 := by unfold G33 GP33; rw [p__law_fr_less, gp32]
def B__law_votes : M O := (sSeq (sPar2 2 3 (uCons (uVal (eOp gAdd (eC (.int (1))) (eCallL [true, false] 2 F__law_roll (aCons (aRefV 0) (aCons (aRefV 1) (aNil)))))) (uCons (uCall 2 F__law_roll (aCons (aRefV 0) (aCons (aVal (eC (.int (6)))) (aNil)))) (uNil)))) (sSeq (sIf (eTB (eOpL gEq 3 (eC (.int (0))))) (sSeq (sRetU (uVal (eFn gTuple (eCons (eOfF (eLc (iRng rng1 (eCons (eVar 2) (eNil))) [5] (.nm 5) (ret true) (eOp gAdd (eC (.int (1))) (eCall 2 F__law_roll (aCons (aRefV 0) (aCons (aVal (eC (.int (9)))) (aNil))))))) (eNil))))) (ret .next)) (ret .next)) (sSeq (sIf (eTB (eOpL gEq 3 (eC (.int (1))))) (sSeq (sRetU (uVal (eOp gMulI (eTup (eCons (eOp gAdd (eC (.int (1))) (eCall 2 F__law_roll (aCons (aRefV 0) (aCons (aVal (eC (.int (12)))) (aNil))))) (eNil))) (eVar 2)))) (ret .next)) (ret .next)) (sSeq (sIf (eTB (eOpL gEq 3 (eC (.int (2))))) (sSeq (sSetU 4 (uVal (eOp gAdd (eC (.int (1))) (eCall 2 F__law_roll (aCons (aRefV 0) (aCons (aVal (eC (.int (30)))) (aNil))))))) (sSeq (sRetU (uVal (eFn gTuple (eCons (eOfF (eLc (iRng rng1 (eCons (eVar 2) (eNil))) [5] (.nm 5) (ret true) (eOp gAdd (eOp gMulI (eVar 4) (eOp gAdd (eC (.int (1))) (eCall 2 F__law_roll (aCons (aRefV 0) (aCons (aVal (eC (.int (6)))) (aNil)))))) (eCall 2 F__law_roll (aCons (aRefV 0) (aCons (aVal (eC (.int (2)))) (aNil))))))) (eNil))))) (ret .next))) (ret .next)) (sSeq (sIf (eTB (eOpL gEq 3 (eC (.int (3))))) (sSeq (sRetU (uVal (eFn gTuple (eCons (eOfF (eLc (iRng rng1 (eCons (eVar 2) (eNil))) [5] (.nm 5) (ret true) (eOp gAdd (eC (.int (1))) (eCall 2 F__law_roll (aCons (aRefV 0) (aCons (aVal (eOp gPow (eC (.int (10))) (eC (.int (9))))) (aNil))))))) (eNil))))) (ret .next)) (ret .next)) (sSeq (sIf (eTB (eOpL gEq 3 (eC (.int (4))))) (sSeq (sRetU (uVal (eFn gTuple (eCons (eOfF (eLc (iRng rng1 (eCons (eVar 2) (eNil))) [5] (.nm 5) (ret true) (eOp gIx (eOfF (eLstO (eCons (eC (.int (1))) (eCons (eC (.int (2))) (eCons (eOp gPow (eC (.int (10))) (eC (.int (6)))) (eCons (eOp gPow (eC (.int (10))) (eC (.int (9)))) (eNil))))))) (eCall 2 F__law_roll (aCons (aRefV 0) (aCons (aVal (eC (.int (4)))) (aNil))))))) (eNil))))) (ret .next)) (ret .next)) (sSeq (sRetU (uVal (eFn gTuple (eCons (eOfF (eLc (iRng rng1 (eCons (eVar 2) (eNil))) [5] (.nm 5) (ret true) (eOp gAdd (eC (.int (1))) (eCall 2 F__law_roll (aCons (aRefV 0) (aCons (aVal (eC (.int (100)))) (aNil))))))) (eNil))))) (ret .next))))))))
theorem e__law_votes (svs : List SV) : F__law_votes svs = finF svs (B__law_votes (envOf N__law_votes svs)) := by kernel_rfl
def BP__law_votes : M O := (sSeq (sPar2 2 3 (uCons (uVal (eOp gAdd (eC (.int (1))) (eCallL [true, false] 2 FP__law_roll (aCons (aRefV 0) (aCons (aRefV 1) (aNil)))))) (uCons (uCall 2 FP__law_roll (aCons (aRefV 0) (aCons (aVal (eC (.int (6)))) (aNil)))) (uNil)))) (sSeq (sIf (eTB (eOpL gEq 3 (eC (.int (0))))) (sSeq (sRetU (uVal (eFn gTuple (eCons (eOfF (eLc (iRng rng1 (eCons (eVar 2) (eNil))) [5] (.nm 5) (ret true) (eOp gAdd (eC (.int (1))) (eCall 2 FP__law_roll (aCons (aRefV 0) (aCons (aVal (eC (.int (9)))) (aNil))))))) (eNil))))) (ret .next)) (ret .next)) (sSeq (sIf (eTB (eOpL gEq 3 (eC (.int (1))))) (sSeq (sRetU (uVal (eOp gMulI (eTup (eCons (eOp gAdd (eC (.int (1))) (eCall 2 FP__law_roll (aCons (aRefV 0) (aCons (aVal (eC (.int (12)))) (aNil))))) (eNil))) (eVar 2)))) (ret .next)) (ret .next)) (sSeq (sIf (eTB (eOpL gEq 3 (eC (.int (2))))) (sSeq (sSetU 4 (uVal (eOp gAdd (eC (.int (1))) (eCall 2 FP__law_roll (aCons (aRefV 0) (aCons (aVal (eC (.int (30)))) (aNil))))))) (sSeq (sRetU (uVal (eFn gTuple (eCons (eOfF (eLc (iRng rng1 (eCons (eVar 2) (eNil))) [5] (.nm 5) (ret true) (eOp gAdd (eOp gMulI (eVar 4) (eOp gAdd (eC (.int (1))) (eCall 2 FP__law_roll (aCons (aRefV 0) (aCons (aVal (eC (.int (6)))) (aNil)))))) (eCall 2 FP__law_roll (aCons (aRefV 0) (aCons (aVal (eC (.int (2)))) (aNil))))))) (eNil))))) (ret .next))) (ret .next)) (sSeq (sIf (eTB (eOpL gEq 3 (eC (.int (3))))) (sSeq (sRetU (uVal (eFn gTuple (eCons (eOfF (eLc (iRng rng1 (eCons (eVar 2) (eNil))) [5] (.nm 5) (ret true) (eOp gAdd (eC (.int (1))) (eCall 2 FP__law_roll (aCons (aRefV 0) (aCons (aVal (eOp gPow (eC (.int (10))) (eC (.int (9))))) (aNil))))))) (eNil))))) (ret .next)) (ret .next)) (sSeq (sIf (eTB (eOpL gEq 3 (eC (.int (4))))) (sSeq (sRetU (uVal (eFn gTuple (eCons (eOfF (eLc (iRng rng1 (eCons (eVar 2) (eNil))) [5] (.nm 5) (ret true) (eOp gIx (eOfF (eLstO (eCons (eC (.int (1))) (eCons (eC (.int (2))) (eCons (eOp gPow (eC (.int (10))) (eC (.int (6)))) (eCons (eOp gPow (eC (.int (10))) (eC (.int (9)))) (eNil))))))) (eCall 2 FP__law_roll (aCons (aRefV 0) (aCons (aVal (eC (.int (4)))) (aNil))))))) (eNil))))) (ret .next)) (ret .next)) (sSeq (sRetU (uVal (eFn gTuple (eCons (eOfF (eLc (iRng rng1 (eCons (eVar 2) (eNil))) [5] (.nm 5) (ret true) (eOp gAdd (eC (.int (1))) (eCall 2 FP__law_roll (aCons (aRefV 0) (aCons (aVal (eC (.int (100)))) (aNil))))))) (eNil))))) (ret .next))))))))
def FP__law_votes : Fn := fun svs => finF svs (BP__law_votes (envOf N__law_votes svs))
theorem b__law_votes : B__law_votes = BP__law_votes := by unfold B__law_votes BP__law_votes; simp only [p__law_roll]
theorem p__law_votes : F__law_votes = FP__law_votes := by funext svs; rw [e__law_votes, b__law_votes]; rfl
def GP34 : Gm := ⟨("_law_votes", .fn 2 [true, false] FP__law_votes) :: GP33.tab, fu, xms⟩
theorem gp34 : G34 = GP34 := by unfold G34 GP34; rw [p__law_votes, gp33]
def B__law_step_way : M O := (sSeq (sSetU 1 (uVal (eOp gIx (eOfF (eLstO (eCons (eTup (eCons (eC (.int (1))) (eCons (eC (.int (2))) (eNil)))) (eCons (eTup (eCons (eC (.int (1))) (eCons (eC (.int (1))) (eNil)))) (eCons (eTup (eCons (eC (.int (1))) (eCons (eC (.int (3))) (eNil)))) (eCons (eTup (eCons (eC (.int (2))) (eCons (eC (.int (5))) (eNil)))) (eCons (eTup (eCons (eC (.int (7))) (eCons (eC (.int (10))) (eNil)))) (eCons (eTup (eCons (eC (.int (1))) (eCons (eC (.int (1000))) (eNil)))) (eCons (eTup (eCons (eC (.int (999))) (eCons (eC (.int (1000))) (eNil)))) (eNil)))))))))) (eCall 2 F__law_roll (aCons (aRefV 0) (aCons (aVal (eC (.int (7)))) (aNil))))))) (sSeq (sIf (eTB (eOp gEq (eCall 2 F__law_roll (aCons (aRefV 0) (aCons (aVal (eC (.int (3)))) (aNil)))) (eC (.int (0))))) (sSeq (sSetU 2 (uVal (eOp gAdd (eC (.int (1))) (eCall 2 F__law_roll (aCons (aRefV 0) (aCons (aVal (eC (.int (30)))) (aNil))))))) (sSeq (sSetU 1 (uCallL [false, false] 2 F__law_fraction (aCons (aVal (eOp gAdd (eC (.int (1))) (eCallL [true, false] 2 F__law_roll (aCons (aRefV 0) (aCons (aRefV 2) (aNil)))))) (aCons (aRefV 2) (aNil))))) (ret .next))) (ret .next)) (sSeq (sRetU (uVal (eTup (eCons (eC (.str "step")) (eCons (eVar 1) (eNil)))))) (ret .next))))
theorem e__law_step_way (svs : List SV) : F__law_step_way svs = finF svs (B__law_step_way (envOf N__law_step_way svs)) := by kernel_rfl
def BP__law_step_way : M O := (sSeq (sSetU 1 (uVal (eOp gIx (eOfF (eLstO (eCons (eTup (eCons (eC (.int (1))) (eCons (eC (.int (2))) (eNil)))) (eCons (eTup (eCons (eC (.int (1))) (eCons (eC (.int (1))) (eNil)))) (eCons (eTup (eCons (eC (.int (1))) (eCons (eC (.int (3))) (eNil)))) (eCons (eTup (eCons (eC (.int (2))) (eCons (eC (.int (5))) (eNil)))) (eCons (eTup (eCons (eC (.int (7))) (eCons (eC (.int (10))) (eNil)))) (eCons (eTup (eCons (eC (.int (1))) (eCons (eC (.int (1000))) (eNil)))) (eCons (eTup (eCons (eC (.int (999))) (eCons (eC (.int (1000))) (eNil)))) (eNil)))))))))) (eCall 2 FP__law_roll (aCons (aRefV 0) (aCons (aVal (eC (.int (7)))) (aNil))))))) (sSeq (sIf (eTB (eOp gEq (eCall 2 FP__law_roll (aCons (aRefV 0) (aCons (aVal (eC (.int (3)))) (aNil)))) (eC (.int (0))))) (sSeq (sSetU 2 (uVal (eOp gAdd (eC (.int (1))) (eCall 2 FP__law_roll (aCons (aRefV 0) (aCons (aVal (eC (.int (30)))) (aNil))))))) (sSeq (sSetU 1 (uCallL [false, false] 2 FP__law_fraction (aCons (aVal (eOp gAdd (eC (.int (1))) (eCallL [true, false] 2 FP__law_roll (aCons (aRefV 0) (aCons (aRefV 2) (aNil)))))) (aCons (aRefV 2) (aNil))))) (ret .next))) (ret .next)) (sSeq (sRetU (uVal (eTup (eCons (eC (.str "step")) (eCons (eVar 1) (eNil)))))) (ret .next))))
def FP__law_step_way : Fn := fun svs => finF svs (BP__law_step_way (envOf N__law_step_way svs))
theorem b__law_step_way : B__law_step_way = BP__law_step_way := by unfold B__law_step_way BP__law_step_way; simp only [p__law_fraction, p__law_roll]
theorem p__law_step_way : F__law_step_way = FP__law_step_way := by funext svs; rw [e__law_step_way, b__law_step_way]; rfl
def GP35 : Gm := ⟨("_law_step_way", .fn 1 [true] FP__law_step_way) :: GP34.tab, fu, xms⟩
theorem gp35 : G35 = GP35 := by unfold G35 GP35; rw [p__law_step_way, gp34]
def B__law_square : M O := (sSeq (sIf (eTB (eOp gEq (eIxB 0 (eC (.int (0)))) (eC (.str "up")))) (sSeq (sRetU (uVal (eTup (eCons (eOp gMulI (eVar 1) (eVar 1)) (eCons (eC (.int (1))) (eNil)))))) (ret .next)) (ret .next)) (sSeq (sIf (eTB (eOp gEq (eIxB 0 (eC (.int (0)))) (eC (.str "harmonic")))) (sSeq (sRetU (uCall 2 F__law_fraction (aCons (aVal (eOp gMulI (eOp gMulI (eOp gMulI (eOp gMulI (eC (.int (4))) (eVar 1)) (eVar 1)) (eOp gAdd (eVar 1) (eC (.int (1))))) (eOp gAdd (eVar 1) (eC (.int (1)))))) (aCons (aVal (eOp gMulI (eOp gAdd (eOp gMulI (eC (.int (2))) (eVar 1)) (eC (.int (1)))) (eOp gAdd (eOp gMulI (eC (.int (2))) (eVar 1)) (eC (.int (1)))))) (aNil))))) (ret .next)) (ret .next)) (sSeq (sIf (eTB (eOp gEq (eIxB 0 (eC (.int (0)))) (eC (.str "geometric")))) (sSeq (sRetU (uVal (eTup (eCons (eOp gMulI (eVar 1) (eOp gAdd (eVar 1) (eC (.int (1))))) (eCons (eC (.int (1))) (eNil)))))) (ret .next)) (ret .next)) (sSeq (sAsg (.tp [(.nm 2), (.nm 3)]) (eIxB 0 (eC (.int (1))))) (sSeq (sRetU (uCall 2 F__law_fraction (aCons (aVal (eOp gMulI (eOp gAdd (eOp gMulI (eVar 1) (eVar 3)) (eVar 2)) (eOp gAdd (eOp gMulI (eVar 1) (eVar 3)) (eVar 2)))) (aCons (aVal (eOp gMulI (eVar 3) (eVar 3))) (aNil))))) (ret .next))))))
theorem e__law_square (svs : List SV) : F__law_square svs = finF svs (B__law_square (envOf N__law_square svs)) := by kernel_rfl
def BP__law_square : M O := (sSeq (sIf (eTB (eOp gEq (eIxB 0 (eC (.int (0)))) (eC (.str "up")))) (sSeq (sRetU (uVal (eTup (eCons (eOp gMulI (eVar 1) (eVar 1)) (eCons (eC (.int (1))) (eNil)))))) (ret .next)) (ret .next)) (sSeq (sIf (eTB (eOp gEq (eIxB 0 (eC (.int (0)))) (eC (.str "harmonic")))) (sSeq (sRetU (uCall 2 FP__law_fraction (aCons (aVal (eOp gMulI (eOp gMulI (eOp gMulI (eOp gMulI (eC (.int (4))) (eVar 1)) (eVar 1)) (eOp gAdd (eVar 1) (eC (.int (1))))) (eOp gAdd (eVar 1) (eC (.int (1)))))) (aCons (aVal (eOp gMulI (eOp gAdd (eOp gMulI (eC (.int (2))) (eVar 1)) (eC (.int (1)))) (eOp gAdd (eOp gMulI (eC (.int (2))) (eVar 1)) (eC (.int (1)))))) (aNil))))) (ret .next)) (ret .next)) (sSeq (sIf (eTB (eOp gEq (eIxB 0 (eC (.int (0)))) (eC (.str "geometric")))) (sSeq (sRetU (uVal (eTup (eCons (eOp gMulI (eVar 1) (eOp gAdd (eVar 1) (eC (.int (1))))) (eCons (eC (.int (1))) (eNil)))))) (ret .next)) (ret .next)) (sSeq (sAsg (.tp [(.nm 2), (.nm 3)]) (eIxB 0 (eC (.int (1))))) (sSeq (sRetU (uCall 2 FP__law_fraction (aCons (aVal (eOp gMulI (eOp gAdd (eOp gMulI (eVar 1) (eVar 3)) (eVar 2)) (eOp gAdd (eOp gMulI (eVar 1) (eVar 3)) (eVar 2)))) (aCons (aVal (eOp gMulI (eVar 3) (eVar 3))) (aNil))))) (ret .next))))))
def FP__law_square : Fn := fun svs => finF svs (BP__law_square (envOf N__law_square svs))
theorem b__law_square : B__law_square = BP__law_square := by unfold B__law_square BP__law_square; simp only [p__law_fraction]
theorem p__law_square : F__law_square = FP__law_square := by funext svs; rw [e__law_square, b__law_square]; rfl
def GP36 : Gm := ⟨("_law_square", .fn 2 [false, false] FP__law_square) :: GP35.tab, fu, xms⟩
theorem gp36 : G36 = GP36 := by unfold G36 GP36; rw [p__law_square, gp35]
def B__law_compared : M O := (sSeq (sPar2 5 6 (uCons (uCallL [false, false] 2 F__law_square (aCons (aRefV 0) (aCons (aRefV 2) (aNil)))) (uCons (uCallL [false, false] 2 F__law_square (aCons (aRefV 0) (aCons (aRefV 4) (aNil)))) (uNil)))) (sSeq (sIf (tOrM (eTB (eOp gEq (eIxB 5 (eC (.int (0)))) (eC (.int (0))))) (eTB (eOp gEq (eIxB 6 (eC (.int (0)))) (eC (.int (0)))))) (sSeq (sIf (tAndM (eTB (eOp gEq (eIxB 5 (eC (.int (0)))) (eC (.int (0))))) (eTB (eOp gEq (eIxB 6 (eC (.int (0)))) (eC (.int (0)))))) (sSeq (sRetU (uVal (eOp gSub (eFn gInt (eCons (eOpL gGt 1 (eVar 3)) (eNil))) (eFn gInt (eCons (eOpL gLt 1 (eVar 3)) (eNil)))))) (ret .next)) (ret .next)) (sSeq (sRetU (uVal (eIf (eTB (eOp gEq (eIxB 5 (eC (.int (0)))) (eC (.int (0))))) (eC (.int (1))) (eUn gNeg (eC (.int (1))))))) (ret .next))) (ret .next)) (sSeq (sPar2 7 8 (uCons (uVal (eOp gMulI (eOp gMulI (eOp gMulI (eVar 1) (eVar 1)) (eIxB 5 (eC (.int (1))))) (eIxB 6 (eC (.int (0)))))) (uCons (uVal (eOp gMulI (eOp gMulI (eOp gMulI (eVar 3) (eVar 3)) (eIxB 6 (eC (.int (1))))) (eIxB 5 (eC (.int (0)))))) (uNil)))) (sSeq (sRetU (uVal (eOp gSub (eFn gInt (eCons (eOpL gGt 7 (eVar 8)) (eNil))) (eFn gInt (eCons (eOpL gLt 7 (eVar 8)) (eNil)))))) (ret .next)))))
theorem e__law_compared (svs : List SV) : F__law_compared svs = finF svs (B__law_compared (envOf N__law_compared svs)) := by kernel_rfl
def BP__law_compared : M O := (sSeq (sPar2 5 6 (uCons (uCallL [false, false] 2 FP__law_square (aCons (aRefV 0) (aCons (aRefV 2) (aNil)))) (uCons (uCallL [false, false] 2 FP__law_square (aCons (aRefV 0) (aCons (aRefV 4) (aNil)))) (uNil)))) (sSeq (sIf (tOrM (eTB (eOp gEq (eIxB 5 (eC (.int (0)))) (eC (.int (0))))) (eTB (eOp gEq (eIxB 6 (eC (.int (0)))) (eC (.int (0)))))) (sSeq (sIf (tAndM (eTB (eOp gEq (eIxB 5 (eC (.int (0)))) (eC (.int (0))))) (eTB (eOp gEq (eIxB 6 (eC (.int (0)))) (eC (.int (0)))))) (sSeq (sRetU (uVal (eOp gSub (eFn gInt (eCons (eOpL gGt 1 (eVar 3)) (eNil))) (eFn gInt (eCons (eOpL gLt 1 (eVar 3)) (eNil)))))) (ret .next)) (ret .next)) (sSeq (sRetU (uVal (eIf (eTB (eOp gEq (eIxB 5 (eC (.int (0)))) (eC (.int (0))))) (eC (.int (1))) (eUn gNeg (eC (.int (1))))))) (ret .next))) (ret .next)) (sSeq (sPar2 7 8 (uCons (uVal (eOp gMulI (eOp gMulI (eOp gMulI (eVar 1) (eVar 1)) (eIxB 5 (eC (.int (1))))) (eIxB 6 (eC (.int (0)))))) (uCons (uVal (eOp gMulI (eOp gMulI (eOp gMulI (eVar 3) (eVar 3)) (eIxB 6 (eC (.int (1))))) (eIxB 5 (eC (.int (0)))))) (uNil)))) (sSeq (sRetU (uVal (eOp gSub (eFn gInt (eCons (eOpL gGt 7 (eVar 8)) (eNil))) (eFn gInt (eCons (eOpL gLt 7 (eVar 8)) (eNil)))))) (ret .next)))))
def FP__law_compared : Fn := fun svs => finF svs (BP__law_compared (envOf N__law_compared svs))
theorem b__law_compared : B__law_compared = BP__law_compared := by unfold B__law_compared BP__law_compared; simp only [p__law_square]
theorem p__law_compared : F__law_compared = FP__law_compared := by funext svs; rw [e__law_compared, b__law_compared]; rfl
def GP37 : Gm := ⟨("_law_compared", .fn 5 [false, false, false, false, false] FP__law_compared) :: GP36.tab, fu, xms⟩
theorem gp37 : G37 = GP37 := by unfold G37 GP37; rw [p__law_compared, gp36]
def B__law_sh_beyond : M O := (sSeq (sSetU 4 (uVal (eC (.int (0))))) (sSeq (sFor (iSeq (eSl (eVar 1) (some (eC (.int (1)))) none)) (.nm 5) (sSeq (sSetU 4 (uVal (eOp gAdd (eVar 4) (eFn gLen (eCons (eOfF (eLc (iRng rng1 (eCons (eC (.int (300))) (eNil))) [6] (.nm 6) (eTB (eOp gGe (eCallL [false, false, false, false, false] 5 F__law_compared (aCons (aRefV 0) (aCons (aRefV 5) (aCons (aRefV 6) (aCons (aVal (eIxB 1 (eC (.int (0))))) (aCons (aVal (eOp gSub (eVar 2) (eC (.int (1))))) (aNil))))))) (eVar 3))) (eVar 6))) (eNil)))))) (ret .next))) (sSeq (sRetV 4) (ret .next))))
theorem e__law_sh_beyond (svs : List SV) : F__law_sh_beyond svs = finF svs (B__law_sh_beyond (envOf N__law_sh_beyond svs)) := by kernel_rfl
def BP__law_sh_beyond : M O := (sSeq (sSetU 4 (uVal (eC (.int (0))))) (sSeq (sFor (iSeq (eSl (eVar 1) (some (eC (.int (1)))) none)) (.nm 5) (sSeq (sSetU 4 (uVal (eOp gAdd (eVar 4) (eFn gLen (eCons (eOfF (eLc (iRng rng1 (eCons (eC (.int (300))) (eNil))) [6] (.nm 6) (eTB (eOp gGe (eCallL [false, false, false, false, false] 5 FP__law_compared (aCons (aRefV 0) (aCons (aRefV 5) (aCons (aRefV 6) (aCons (aVal (eIxB 1 (eC (.int (0))))) (aCons (aVal (eOp gSub (eVar 2) (eC (.int (1))))) (aNil))))))) (eVar 3))) (eVar 6))) (eNil)))))) (ret .next))) (sSeq (sRetV 4) (ret .next))))
def FP__law_sh_beyond : Fn := fun svs => finF svs (BP__law_sh_beyond (envOf N__law_sh_beyond svs))
theorem b__law_sh_beyond : B__law_sh_beyond = BP__law_sh_beyond := by unfold B__law_sh_beyond BP__law_sh_beyond; simp only [p__law_compared]
theorem p__law_sh_beyond : F__law_sh_beyond = FP__law_sh_beyond := by funext svs; rw [e__law_sh_beyond, b__law_sh_beyond]; rfl
def GP38 : Gm := ⟨("_law_sh_beyond", .fn 4 [false, false, false, false] FP__law_sh_beyond) :: GP37.tab, fu, xms⟩
theorem gp38 : G38 = GP38 := by unfold G38 GP38; rw [p__law_sh_beyond, gp37]
def B__law_sh_can : M O := (sSeq (sRetU (uVal (eOp gLe (eOp gAdd (eVar 2) (eCallL [false, false, false, false] 4 F__law_sh_beyond (aCons (aRefV 0) (aCons (aRefV 3) (aCons (aRefV 2) (aCons (aVal (eC (.int (1)))) (aNil))))))) (eVar 1)))) (ret .next))
theorem e__law_sh_can (svs : List SV) : F__law_sh_can svs = finF svs (B__law_sh_can (envOf N__law_sh_can svs)) := by kernel_rfl
def BP__law_sh_can : M O := (sSeq (sRetU (uVal (eOp gLe (eOp gAdd (eVar 2) (eCallL [false, false, false, false] 4 FP__law_sh_beyond (aCons (aRefV 0) (aCons (aRefV 3) (aCons (aRefV 2) (aCons (aVal (eC (.int (1)))) (aNil))))))) (eVar 1)))) (ret .next))
def FP__law_sh_can : Fn := fun svs => finF svs (BP__law_sh_can (envOf N__law_sh_can svs))
theorem b__law_sh_can : B__law_sh_can = BP__law_sh_can := by unfold B__law_sh_can BP__law_sh_can; simp only [p__law_sh_beyond]
theorem p__law_sh_can : F__law_sh_can = FP__law_sh_can := by funext svs; rw [e__law_sh_can, b__law_sh_can]; rfl
def GP39 : Gm := ⟨("_law_sh_can", .fn 4 [false, false, false, false] FP__law_sh_can) :: GP38.tab, fu, xms⟩
theorem gp39 : G39 = GP39 := by unfold G39 GP39; rw [p__law_sh_can, gp38]
def B__law_sh_sure : M O := (sSeq (sRetU (uVal (eOp gLe (eOp gAdd (eVar 2) (eCallL [false, false, false, false] 4 F__law_sh_beyond (aCons (aRefV 0) (aCons (aRefV 3) (aCons (aRefV 2) (aCons (aVal (eC (.int (0)))) (aNil))))))) (eVar 1)))) (ret .next))
theorem e__law_sh_sure (svs : List SV) : F__law_sh_sure svs = finF svs (B__law_sh_sure (envOf N__law_sh_sure svs)) := by kernel_rfl
def BP__law_sh_sure : M O := (sSeq (sRetU (uVal (eOp gLe (eOp gAdd (eVar 2) (eCallL [false, false, false, false] 4 FP__law_sh_beyond (aCons (aRefV 0) (aCons (aRefV 3) (aCons (aRefV 2) (aCons (aVal (eC (.int (0)))) (aNil))))))) (eVar 1)))) (ret .next))
def FP__law_sh_sure : Fn := fun svs => finF svs (BP__law_sh_sure (envOf N__law_sh_sure svs))
theorem b__law_sh_sure : B__law_sh_sure = BP__law_sh_sure := by unfold B__law_sh_sure BP__law_sh_sure; simp only [p__law_sh_beyond]
theorem p__law_sh_sure : F__law_sh_sure = FP__law_sh_sure := by funext svs; rw [e__law_sh_sure, b__law_sh_sure]; rfl
def GP40 : Gm := ⟨("_law_sh_sure", .fn 4 [false, false, false, false] FP__law_sh_sure) :: GP39.tab, fu, xms⟩
theorem gp40 : G40 = GP40 := by unfold G40 GP40; rw [p__law_sh_sure, gp39]
def B__law_sh_possible : M O := (sSeq (sRetU (uCall 2 F__law_fraction (aCons (aVal (eOp gAdd (eOp gMulI (eOp gSub (eVar 3) (eC (.int (1)))) (eIxB 0 (eC (.int (1))))) (eIxB 0 (eC (.int (0)))))) (aCons (aVal (eOp gAdd (eOp gMulI (eOp gSub (eVar 2) (eC (.int (1)))) (eIxB 0 (eC (.int (1))))) (eOp gMulI (eVar 1) (eIxB 0 (eC (.int (0))))))) (aNil))))) (ret .next))
theorem e__law_sh_possible (svs : List SV) : F__law_sh_possible svs = finF svs (B__law_sh_possible (envOf N__law_sh_possible svs)) := by kernel_rfl
def BP__law_sh_possible : M O := (sSeq (sRetU (uCall 2 FP__law_fraction (aCons (aVal (eOp gAdd (eOp gMulI (eOp gSub (eVar 3) (eC (.int (1)))) (eIxB 0 (eC (.int (1))))) (eIxB 0 (eC (.int (0)))))) (aCons (aVal (eOp gAdd (eOp gMulI (eOp gSub (eVar 2) (eC (.int (1)))) (eIxB 0 (eC (.int (1))))) (eOp gMulI (eVar 1) (eIxB 0 (eC (.int (0))))))) (aNil))))) (ret .next))
def FP__law_sh_possible : Fn := fun svs => finF svs (BP__law_sh_possible (envOf N__law_sh_possible svs))
theorem b__law_sh_possible : B__law_sh_possible = BP__law_sh_possible := by unfold B__law_sh_possible BP__law_sh_possible; simp only [p__law_fraction]
theorem p__law_sh_possible : F__law_sh_possible = FP__law_sh_possible := by funext svs; rw [e__law_sh_possible, b__law_sh_possible]; rfl
def GP41 : Gm := ⟨("_law_sh_possible", .fn 4 [false, false, false, false] FP__law_sh_possible) :: GP40.tab, fu, xms⟩
theorem gp41 : G41 = GP41 := by unfold G41 GP41; rw [p__law_sh_possible, gp40]
def B__law_sh_bound : M O := (sSeq (sSetU 4 (uVal (eFn gMin (eCons (eOp gSub (eVar 1) (eC (.int (1)))) (eCons (eOp gAdd (eOp gSub (eVar 2) (eVar 3)) (eC (.int (1)))) (eNil)))))) (sSeq (sRetU (uCall 2 F__law_fraction (aCons (aVal (eOp gAdd (eOp gMulI (eOp gSub (eVar 3) (eC (.int (1)))) (eIxB 0 (eC (.int (1))))) (eIxB 0 (eC (.int (0)))))) (aCons (aVal (eOp gSub (eOp gAdd (eOp gMulI (eVar 2) (eIxB 0 (eC (.int (1))))) (eIxB 0 (eC (.int (0))))) (eOp gMulI (eVar 4) (eOp gSub (eIxB 0 (eC (.int (1)))) (eIxB 0 (eC (.int (0)))))))) (aNil))))) (ret .next)))
theorem e__law_sh_bound (svs : List SV) : F__law_sh_bound svs = finF svs (B__law_sh_bound (envOf N__law_sh_bound svs)) := by kernel_rfl
def BP__law_sh_bound : M O := (sSeq (sSetU 4 (uVal (eFn gMin (eCons (eOp gSub (eVar 1) (eC (.int (1)))) (eCons (eOp gAdd (eOp gSub (eVar 2) (eVar 3)) (eC (.int (1)))) (eNil)))))) (sSeq (sRetU (uCall 2 FP__law_fraction (aCons (aVal (eOp gAdd (eOp gMulI (eOp gSub (eVar 3) (eC (.int (1)))) (eIxB 0 (eC (.int (1))))) (eIxB 0 (eC (.int (0)))))) (aCons (aVal (eOp gSub (eOp gAdd (eOp gMulI (eVar 2) (eIxB 0 (eC (.int (1))))) (eIxB 0 (eC (.int (0))))) (eOp gMulI (eVar 4) (eOp gSub (eIxB 0 (eC (.int (1)))) (eIxB 0 (eC (.int (0)))))))) (aNil))))) (ret .next)))
def FP__law_sh_bound : Fn := fun svs => finF svs (BP__law_sh_bound (envOf N__law_sh_bound svs))
theorem b__law_sh_bound : B__law_sh_bound = BP__law_sh_bound := by unfold B__law_sh_bound BP__law_sh_bound; simp only [p__law_fraction]
theorem p__law_sh_bound : F__law_sh_bound = FP__law_sh_bound := by funext svs; rw [e__law_sh_bound, b__law_sh_bound]; rfl
def GP42 : Gm := ⟨("_law_sh_bound", .fn 4 [false, false, false, false] FP__law_sh_bound) :: GP41.tab, fu, xms⟩
theorem gp42 : G42 = GP42 := by unfold G42 GP42; rw [p__law_sh_bound, gp41]
def B__law_sh_is_sure : M O := (sSeq (sSetU 5 (uCallL [false, false, false, false] 4 F__law_sh_bound (aCons (aRefV 0) (aCons (aRefV 1) (aCons (aRefV 2) (aCons (aRefV 3) (aNil))))))) (sSeq (sRetU (uVal (eOrV (eCallL [false, false] 2 F__law_fr_less (aCons (aRefV 5) (aCons (aRefV 4) (aNil)))) (eAndV (eOpL gEq 5 (eVar 4)) (eOp gGt (eOp gSub (eVar 1) (eC (.int (1)))) (eOp gAdd (eOp gSub (eVar 2) (eVar 3)) (eC (.int (1))))))))) (ret .next)))
theorem e__law_sh_is_sure (svs : List SV) : F__law_sh_is_sure svs = finF svs (B__law_sh_is_sure (envOf N__law_sh_is_sure svs)) := by kernel_rfl
def BP__law_sh_is_sure : M O := (sSeq (sSetU 5 (uCallL [false, false, false, false] 4 FP__law_sh_bound (aCons (aRefV 0) (aCons (aRefV 1) (aCons (aRefV 2) (aCons (aRefV 3) (aNil))))))) (sSeq (sRetU (uVal (eOrV (eCallL [false, false] 2 FP__law_fr_less (aCons (aRefV 5) (aCons (aRefV 4) (aNil)))) (eAndV (eOpL gEq 5 (eVar 4)) (eOp gGt (eOp gSub (eVar 1) (eC (.int (1)))) (eOp gAdd (eOp gSub (eVar 2) (eVar 3)) (eC (.int (1))))))))) (ret .next)))
def FP__law_sh_is_sure : Fn := fun svs => finF svs (BP__law_sh_is_sure (envOf N__law_sh_is_sure svs))
theorem b__law_sh_is_sure : B__law_sh_is_sure = BP__law_sh_is_sure := by unfold B__law_sh_is_sure BP__law_sh_is_sure; simp only [p__law_fr_less, p__law_sh_bound]
theorem p__law_sh_is_sure : F__law_sh_is_sure = FP__law_sh_is_sure := by funext svs; rw [e__law_sh_is_sure, b__law_sh_is_sure]; rfl
def GP43 : Gm := ⟨("_law_sh_is_sure", .fn 5 [false, false, false, false, false] FP__law_sh_is_sure) :: GP42.tab, fu, xms⟩
theorem gp43 : G43 = GP43 := by unfold G43 GP43; rw [p__law_sh_is_sure, gp42]
def B__law_met : M O := (sSeq (sTry 4 (metOf (xmF G43) (fldF G43) [("Refused", .raw "reason")]) (sSeq (sRetU (uCallL [false, false, false, false] 4 F_house_from (aCons (aRefV 0) (aCons (aRefV 1) (aCons (aRefV 2) (aCons (aRefV 3) (aNil))))))) (ret .next))) (ret .next))
theorem e__law_met (svs : List SV) : F__law_met svs = finF svs (B__law_met (envOf N__law_met svs)) := by kernel_rfl
def BP__law_met : M O := (sSeq (sTry 4 (metOf (xmF GP43) (fldF GP43) [("Refused", .raw "reason")]) (sSeq (sRetU (uCallL [false, false, false, false] 4 FP_house_from (aCons (aRefV 0) (aCons (aRefV 1) (aCons (aRefV 2) (aCons (aRefV 3) (aNil))))))) (ret .next))) (ret .next))
def FP__law_met : Fn := fun svs => finF svs (BP__law_met (envOf N__law_met svs))
theorem b__law_met : B__law_met = BP__law_met := by unfold B__law_met BP__law_met; simp only [p_house_from, gp43]
theorem p__law_met : F__law_met = FP__law_met := by funext svs; rw [e__law_met, b__law_met]; rfl
def GP44 : Gm := ⟨("_law_met", .fn 4 [false, false, false, false] FP__law_met) :: GP43.tab, fu, xms⟩
theorem gp44 : G44 = GP44 := by unfold G44 GP44; rw [p__law_met, gp43]
def B__law_seat_span : M O := (sSeq (sSetO 4 (eLc (iRng rng2 (eCons (eC (.int (1))) (eCons (eOp gAdd (eVar 2) (eC (.int (1)))) (eNil)))) [6] (.nm 6) (tNotM (eTru (eCallL [false, false] 2 F__law_fr_less (aCons (aRefV 3) (aCons (aVal (eCallL [false, false, false, false] 4 F__law_sh_possible (aCons (aRefV 0) (aCons (aRefV 1) (aCons (aRefV 2) (aCons (aRefV 6) (aNil))))))) (aNil)))))) (eVar 6))) (sSeq (sSetO 5 (eLc (iRng rng2 (eCons (eC (.int (1))) (eCons (eOp gAdd (eVar 2) (eC (.int (1)))) (eNil)))) [6] (.nm 6) (eTru (eCallL [false, false, false, false, false] 5 F__law_sh_is_sure (aCons (aRefV 0) (aCons (aRefV 1) (aCons (aRefV 2) (aCons (aRefV 6) (aCons (aRefV 3) (aNil)))))))) (eVar 6))) (sSeq (sRetU (uVal (eTup (eCons (eFn gMax (eCons (eOfF (eOpF gAddF (eVar 5) (eOfF (eLstO (eCons (eC (.int (0))) (eNil)))))) (eNil))) (eCons (eFn gMax (eCons (eOfF (eOpF gAddF (eVar 4) (eOfF (eLstO (eCons (eC (.int (0))) (eNil)))))) (eNil))) (eNil)))))) (ret .next))))
theorem e__law_seat_span (svs : List SV) : F__law_seat_span svs = finF svs (B__law_seat_span (envOf N__law_seat_span svs)) := by kernel_rfl
def BP__law_seat_span : M O := (sSeq (sSetO 4 (eLc (iRng rng2 (eCons (eC (.int (1))) (eCons (eOp gAdd (eVar 2) (eC (.int (1)))) (eNil)))) [6] (.nm 6) (tNotM (eTru (eCallL [false, false] 2 FP__law_fr_less (aCons (aRefV 3) (aCons (aVal (eCallL [false, false, false, false] 4 FP__law_sh_possible (aCons (aRefV 0) (aCons (aRefV 1) (aCons (aRefV 2) (aCons (aRefV 6) (aNil))))))) (aNil)))))) (eVar 6))) (sSeq (sSetO 5 (eLc (iRng rng2 (eCons (eC (.int (1))) (eCons (eOp gAdd (eVar 2) (eC (.int (1)))) (eNil)))) [6] (.nm 6) (eTru (eCallL [false, false, false, false, false] 5 FP__law_sh_is_sure (aCons (aRefV 0) (aCons (aRefV 1) (aCons (aRefV 2) (aCons (aRefV 6) (aCons (aRefV 3) (aNil)))))))) (eVar 6))) (sSeq (sRetU (uVal (eTup (eCons (eFn gMax (eCons (eOfF (eOpF gAddF (eVar 5) (eOfF (eLstO (eCons (eC (.int (0))) (eNil)))))) (eNil))) (eCons (eFn gMax (eCons (eOfF (eOpF gAddF (eVar 4) (eOfF (eLstO (eCons (eC (.int (0))) (eNil)))))) (eNil))) (eNil)))))) (ret .next))))
def FP__law_seat_span : Fn := fun svs => finF svs (BP__law_seat_span (envOf N__law_seat_span svs))
theorem b__law_seat_span : B__law_seat_span = BP__law_seat_span := by unfold B__law_seat_span BP__law_seat_span; simp only [p__law_fr_less, p__law_sh_is_sure, p__law_sh_possible]
theorem p__law_seat_span : F__law_seat_span = FP__law_seat_span := by funext svs; rw [e__law_seat_span, b__law_seat_span]; rfl
def GP45 : Gm := ⟨("_law_seat_span", .fn 4 [false, false, false, false] FP__law_seat_span) :: GP44.tab, fu, xms⟩
theorem gp45 : G45 = GP45 := by unfold G45 GP45; rw [p__law_seat_span, gp44]
def B__law_right : M O := (sSeq (sAsgU [(.nm 9), (.nm 10)] (uCons (uCall 1 F__law_step_way (aCons (aRefV 0) (aNil))) (uCons (uVal (eOp gAdd (eC (.int (2))) (eCall 2 F__law_roll (aCons (aRefV 0) (aCons (aVal (eC (.int (9)))) (aNil)))))) (uNil)))) (sSeq (sSetU 1 (uVal (eOp gAdd (eC (.int (1))) (eCall 2 F__law_roll (aCons (aRefV 0) (aCons (aVal (eCall 2 F__law_pick (aCons (aRefV 0) (aCons (aVal (eOfF (eLstO (eCons (eC (.int (5))) (eCons (eC (.int (12))) (eCons (eC (.int (40))) (eNil))))))) (aNil))))) (aNil))))))) (sSeq (sSetU 2 (uVal (eOp gAdd (eC (.int (2))) (eCall 2 F__law_roll (aCons (aRefV 0) (aCons (aVal (eCall 2 F__law_pick (aCons (aRefV 0) (aCons (aVal (eOfF (eLstO (eCons (eC (.int (8))) (eCons (eC (.int (40))) (eCons (eOp gSub (eOp gPow (eC (.int (10))) (eC (.int (6)))) (eC (.int (1)))) (eNil))))))) (aNil))))) (aNil))))))) (sSeq (sSetU 3 (uCallL [false, false] 2 F__law_fraction (aCons (aVal (eOp gAdd (eC (.int (1))) (eCall 2 F__law_roll (aCons (aRefV 0) (aCons (aVal (eOp gSub (eVar 2) (eC (.int (1))))) (aNil)))))) (aCons (aRefV 2) (aNil))))) (sSeq (sIf (eTB (eOp gEq (eCall 2 F__law_roll (aCons (aRefV 0) (aCons (aVal (eC (.int (2)))) (aNil)))) (eC (.int (0))))) (sSeq (sSetU 7 (uVal (eOp gAdd (eC (.int (1))) (eCallL [true, false] 2 F__law_roll (aCons (aRefV 0) (aCons (aRefV 1) (aNil))))))) (sSeq (sSetU 11 (uCall 2 F__law_pick (aCons (aRefV 0) (aCons (aVal (eOfF (eLstO (eCons (eCallL [false, false, false, false] 4 F__law_sh_possible (aCons (aVal (eIxB 9 (eC (.int (1))))) (aCons (aRefV 10) (aCons (aRefV 1) (aCons (aRefV 7) (aNil)))))) (eCons (eCallL [false, false, false, false] 4 F__law_sh_bound (aCons (aVal (eIxB 9 (eC (.int (1))))) (aCons (aRefV 10) (aCons (aRefV 1) (aCons (aRefV 7) (aNil)))))) (eNil)))))) (aNil))))) (sSeq (sSetU 3 (uVal (eIf (tAndM (eTB (eOp gLe (eIxB 11 (eC (.int (1)))) (eOp gPow (eC (.int (10))) (eC (.int (6)))))) (eTB (eOp gLt (eIxB 11 (eC (.int (0)))) (eIxB 11 (eC (.int (1))))))) (eVar 11) (eVar 3)))) (ret .next)))) (ret .next)) (sSeq (sAsg (.tp [(.nm 12), (.nm 13)]) (eCallL [false, false, false, false] 4 F__law_seat_span (aCons (aVal (eIxB 9 (eC (.int (1))))) (aCons (aRefV 10) (aCons (aRefV 1) (aCons (aRefV 3) (aNil))))))) (sSeq (sIf (eTB (eOp gNe (eCallL [false, false, false, false] 4 F_seats_span (aCons (aRefV 9) (aCons (aRefV 10) (aCons (aRefV 1) (aCons (aRefV 3) (aNil)))))) (eTup (eCons (eVar 12) (eCons (eVar 13) (eNil)))))) (sSeq (sRetU (uVal (eC (.bl false)))) (ret .next)) (ret .next)) (sSeq (sSetU 4 (uCall 2 F__law_votes (aCons (aRefV 0) (aCons (aVal (eC (.int (9)))) (aNil))))) (sSeq (sSetU 5 (uVal (eFnO gSum 4))) (sSeq (sSetU 6 (uVal (eOp gMulI (eIxB 3 (eC (.int (0)))) (eVar 5)))) (sSeq (sIf (tAndM (eTB (eOp gEq (eFnO gLen 4) (eOp gSub (eVar 10) (eC (.int (1)))))) (tAndM (eTB (eOpL gLe 6 (eOp gPow (eC (.int (10))) (eC (.int (9)))))) (eTB (eOp gLe (eOp gMulI (eOp gSub (eIxB 3 (eC (.int (1)))) (eIxB 3 (eC (.int (0))))) (eFnB gMax 4)) (eOp gPow (eC (.int (10))) (eC (.int (9)))))))) (sSeq (sSetU 14 (uVal (eOp gAdd (eTup (eCons (eVar 6) (eNil))) (eFn gTuple (eCons (eOfF (lendC [4] (eLc (iSeq (eVar 4)) [16] (.nm 16) (ret true) (eOp gMulI (eOp gSub (eIxB 3 (eC (.int (1)))) (eIxB 3 (eC (.int (0))))) (eVar 16))))) (eNil)))))) (sSeq (sIf (tOrM (tAndM (tNotM (eTru (eCallL [false, false, false, false] 4 F__law_sh_sure (aCons (aRefV 9) (aCons (aRefV 1) (aCons (aRefV 12) (aCons (aRefV 14) (aNil)))))))) (eTB (eOpL gGt 12 (eC (.int (0)))))) (eTru (eCallL [false, false, false, false] 4 F__law_sh_can (aCons (aRefV 9) (aCons (aRefV 1) (aCons (aVal (eOp gAdd (eVar 13) (eC (.int (1))))) (aCons (aRefV 14) (aNil)))))))) (sSeq (sRetU (uVal (eC (.bl false)))) (ret .next)) (ret .next)) (ret .next))) (ret .next)) (sSeq (sSetU 7 (uVal (eOp gAdd (eC (.int (1))) (eCall 2 F__law_roll (aCons (aRefV 0) (aCons (aVal (eCall 2 F__law_pick (aCons (aRefV 0) (aCons (aVal (eOfF (eLstO (eCons (eC (.int (4))) (eCons (eC (.int (30))) (eNil)))))) (aNil))))) (aNil))))))) (sSeq (sSetO 8 (eLc (iRng rng2 (eCons (eVar 7) (eCons (eC (.int (201))) (eNil)))) [15] (.nm 15) (tNotM (eTru (eCallL [false, false] 2 F__law_fr_less (aCons (aRefV 3) (aCons (aVal (eCallL [false, false, false, false] 4 F__law_sh_possible (aCons (aVal (eIxB 9 (eC (.int (1))))) (aCons (aRefV 10) (aCons (aRefV 15) (aCons (aRefV 7) (aNil))))))) (aNil)))))) (eVar 15))) (sSeq (sRetU (uVal (eOp gEq (eCallL [false, false, false, false] 4 F__law_met (aCons (aRefV 9) (aCons (aRefV 10) (aCons (aRefV 3) (aCons (aRefV 7) (aNil)))))) (eIf (eTB (eOpL gNe 8 (eOfF (eLstO (eNil))))) (eIxB 8 (eC (.int (0)))) (eTup (eCons (eC (.str "none")) (eNil))))))) (ret .next)))))))))))))))
theorem e__law_right (svs : List SV) : F__law_right svs = finF svs (B__law_right (envOf N__law_right svs)) := by kernel_rfl
def BP__law_right : M O := (sSeq (sAsgU [(.nm 9), (.nm 10)] (uCons (uCall 1 FP__law_step_way (aCons (aRefV 0) (aNil))) (uCons (uVal (eOp gAdd (eC (.int (2))) (eCall 2 FP__law_roll (aCons (aRefV 0) (aCons (aVal (eC (.int (9)))) (aNil)))))) (uNil)))) (sSeq (sSetU 1 (uVal (eOp gAdd (eC (.int (1))) (eCall 2 FP__law_roll (aCons (aRefV 0) (aCons (aVal (eCall 2 FP__law_pick (aCons (aRefV 0) (aCons (aVal (eOfF (eLstO (eCons (eC (.int (5))) (eCons (eC (.int (12))) (eCons (eC (.int (40))) (eNil))))))) (aNil))))) (aNil))))))) (sSeq (sSetU 2 (uVal (eOp gAdd (eC (.int (2))) (eCall 2 FP__law_roll (aCons (aRefV 0) (aCons (aVal (eCall 2 FP__law_pick (aCons (aRefV 0) (aCons (aVal (eOfF (eLstO (eCons (eC (.int (8))) (eCons (eC (.int (40))) (eCons (eOp gSub (eOp gPow (eC (.int (10))) (eC (.int (6)))) (eC (.int (1)))) (eNil))))))) (aNil))))) (aNil))))))) (sSeq (sSetU 3 (uCallL [false, false] 2 FP__law_fraction (aCons (aVal (eOp gAdd (eC (.int (1))) (eCall 2 FP__law_roll (aCons (aRefV 0) (aCons (aVal (eOp gSub (eVar 2) (eC (.int (1))))) (aNil)))))) (aCons (aRefV 2) (aNil))))) (sSeq (sIf (eTB (eOp gEq (eCall 2 FP__law_roll (aCons (aRefV 0) (aCons (aVal (eC (.int (2)))) (aNil)))) (eC (.int (0))))) (sSeq (sSetU 7 (uVal (eOp gAdd (eC (.int (1))) (eCallL [true, false] 2 FP__law_roll (aCons (aRefV 0) (aCons (aRefV 1) (aNil))))))) (sSeq (sSetU 11 (uCall 2 FP__law_pick (aCons (aRefV 0) (aCons (aVal (eOfF (eLstO (eCons (eCallL [false, false, false, false] 4 FP__law_sh_possible (aCons (aVal (eIxB 9 (eC (.int (1))))) (aCons (aRefV 10) (aCons (aRefV 1) (aCons (aRefV 7) (aNil)))))) (eCons (eCallL [false, false, false, false] 4 FP__law_sh_bound (aCons (aVal (eIxB 9 (eC (.int (1))))) (aCons (aRefV 10) (aCons (aRefV 1) (aCons (aRefV 7) (aNil)))))) (eNil)))))) (aNil))))) (sSeq (sSetU 3 (uVal (eIf (tAndM (eTB (eOp gLe (eIxB 11 (eC (.int (1)))) (eOp gPow (eC (.int (10))) (eC (.int (6)))))) (eTB (eOp gLt (eIxB 11 (eC (.int (0)))) (eIxB 11 (eC (.int (1))))))) (eVar 11) (eVar 3)))) (ret .next)))) (ret .next)) (sSeq (sAsg (.tp [(.nm 12), (.nm 13)]) (eCallL [false, false, false, false] 4 FP__law_seat_span (aCons (aVal (eIxB 9 (eC (.int (1))))) (aCons (aRefV 10) (aCons (aRefV 1) (aCons (aRefV 3) (aNil))))))) (sSeq (sIf (eTB (eOp gNe (eCallL [false, false, false, false] 4 FP_seats_span (aCons (aRefV 9) (aCons (aRefV 10) (aCons (aRefV 1) (aCons (aRefV 3) (aNil)))))) (eTup (eCons (eVar 12) (eCons (eVar 13) (eNil)))))) (sSeq (sRetU (uVal (eC (.bl false)))) (ret .next)) (ret .next)) (sSeq (sSetU 4 (uCall 2 FP__law_votes (aCons (aRefV 0) (aCons (aVal (eC (.int (9)))) (aNil))))) (sSeq (sSetU 5 (uVal (eFnO gSum 4))) (sSeq (sSetU 6 (uVal (eOp gMulI (eIxB 3 (eC (.int (0)))) (eVar 5)))) (sSeq (sIf (tAndM (eTB (eOp gEq (eFnO gLen 4) (eOp gSub (eVar 10) (eC (.int (1)))))) (tAndM (eTB (eOpL gLe 6 (eOp gPow (eC (.int (10))) (eC (.int (9)))))) (eTB (eOp gLe (eOp gMulI (eOp gSub (eIxB 3 (eC (.int (1)))) (eIxB 3 (eC (.int (0))))) (eFnB gMax 4)) (eOp gPow (eC (.int (10))) (eC (.int (9)))))))) (sSeq (sSetU 14 (uVal (eOp gAdd (eTup (eCons (eVar 6) (eNil))) (eFn gTuple (eCons (eOfF (lendC [4] (eLc (iSeq (eVar 4)) [16] (.nm 16) (ret true) (eOp gMulI (eOp gSub (eIxB 3 (eC (.int (1)))) (eIxB 3 (eC (.int (0))))) (eVar 16))))) (eNil)))))) (sSeq (sIf (tOrM (tAndM (tNotM (eTru (eCallL [false, false, false, false] 4 FP__law_sh_sure (aCons (aRefV 9) (aCons (aRefV 1) (aCons (aRefV 12) (aCons (aRefV 14) (aNil)))))))) (eTB (eOpL gGt 12 (eC (.int (0)))))) (eTru (eCallL [false, false, false, false] 4 FP__law_sh_can (aCons (aRefV 9) (aCons (aRefV 1) (aCons (aVal (eOp gAdd (eVar 13) (eC (.int (1))))) (aCons (aRefV 14) (aNil)))))))) (sSeq (sRetU (uVal (eC (.bl false)))) (ret .next)) (ret .next)) (ret .next))) (ret .next)) (sSeq (sSetU 7 (uVal (eOp gAdd (eC (.int (1))) (eCall 2 FP__law_roll (aCons (aRefV 0) (aCons (aVal (eCall 2 FP__law_pick (aCons (aRefV 0) (aCons (aVal (eOfF (eLstO (eCons (eC (.int (4))) (eCons (eC (.int (30))) (eNil)))))) (aNil))))) (aNil))))))) (sSeq (sSetO 8 (eLc (iRng rng2 (eCons (eVar 7) (eCons (eC (.int (201))) (eNil)))) [15] (.nm 15) (tNotM (eTru (eCallL [false, false] 2 FP__law_fr_less (aCons (aRefV 3) (aCons (aVal (eCallL [false, false, false, false] 4 FP__law_sh_possible (aCons (aVal (eIxB 9 (eC (.int (1))))) (aCons (aRefV 10) (aCons (aRefV 15) (aCons (aRefV 7) (aNil))))))) (aNil)))))) (eVar 15))) (sSeq (sRetU (uVal (eOp gEq (eCallL [false, false, false, false] 4 FP__law_met (aCons (aRefV 9) (aCons (aRefV 10) (aCons (aRefV 3) (aCons (aRefV 7) (aNil)))))) (eIf (eTB (eOpL gNe 8 (eOfF (eLstO (eNil))))) (eIxB 8 (eC (.int (0)))) (eTup (eCons (eC (.str "none")) (eNil))))))) (ret .next)))))))))))))))
def FP__law_right : Fn := fun svs => finF svs (BP__law_right (envOf N__law_right svs))
theorem b__law_right : B__law_right = BP__law_right := by unfold B__law_right BP__law_right; simp only [p__law_fr_less, p__law_fraction, p__law_met, p__law_pick, p__law_roll, p__law_seat_span, p__law_sh_bound, p__law_sh_can, p__law_sh_possible, p__law_sh_sure, p__law_step_way, p__law_votes, p_seats_span]
theorem p__law_right : F__law_right = FP__law_right := by funext svs; rw [e__law_right, b__law_right]; rfl
def GP46 : Gm := ⟨("_law_right", .fn 1 [true] FP__law_right) :: GP45.tab, fu, xms⟩
theorem gp46 : G46 = GP46 := by unfold G46 GP46; rw [p__law_right, gp45]
def B_law : M O := (sSeq (sFor (iRng rng1 (eCons (eFn gMax (eCons (eC (.int (1))) (eCons (eFn gMin (eCons (eC (.int (4))) (eCons (eFnO gLen 0) (eNil)))) (eNil)))) (eNil))) (.nm 1) (sSeq (sSetU 3 (uCallL [false, false] 2 F__law_dice (aCons (aRefV 0) (aCons (aRefV 1) (aNil))))) (sSeq (sFor (iRng rng1 (eCons (eC (.int (4))) (eNil))) (.nm 4) (sSeq (sIf (tNotM (eTru (eCall 1 F__law_right (aCons (aRefV 3) (aNil))))) (sSeq (sRetU (uVal (eC (.bl false)))) (ret .next)) (ret .next)) (ret .next))) (ret .next)))) (sSeq (sAsg (.tp [(.nm 5), (.nm 6)]) (eTup (eCons (eTup (eCons (eC (.str "step")) (eCons (eTup (eCons (eC (.int (1))) (eCons (eC (.int (2))) (eNil)))) (eNil)))) (eCons (eTup (eCons (eC (.str "step")) (eCons (eTup (eCons (eC (.int (1))) (eCons (eC (.int (1))) (eNil)))) (eNil)))) (eNil))))) (sSeq (sSetU 2 (uOwn (eLstO (eCons (eCallL [false, false, false, false] 4 F_seats_span (aCons (aRefV 6) (aCons (aVal (eC (.int (2)))) (aCons (aVal (eC (.int (3)))) (aCons (aVal (eTup (eCons (eC (.int (1))) (eCons (eC (.int (4))) (eNil))))) (aNil)))))) (eCons (eCallL [false, false, false, false] 4 F_seats_span (aCons (aRefV 5) (aCons (aVal (eC (.int (2)))) (aCons (aVal (eC (.int (3)))) (aCons (aVal (eTup (eCons (eC (.int (1))) (eCons (eC (.int (2))) (eNil))))) (aNil)))))) (eCons (eCallL [false, false, false, false] 4 F_house_from (aCons (aRefV 6) (aCons (aVal (eC (.int (2)))) (aCons (aVal (eTup (eCons (eC (.int (1))) (eCons (eC (.int (4))) (eNil))))) (aCons (aVal (eC (.int (1)))) (aNil)))))) (eNil))))))) (sSeq (sRetU (uVal (eAndV (eOpL gEq 2 (eOfF (eLstO (eCons (eTup (eCons (eC (.int (0))) (eCons (eC (.int (1))) (eNil)))) (eCons (eTup (eCons (eC (.int (1))) (eCons (eC (.int (2))) (eNil)))) (eCons (eC (.int (3))) (eNil))))))) (eOp gEq (eCallL [false, false, false, false] 4 F_seats_span (aCons (aRefV 5) (aCons (aVal (eC (.int (3)))) (aCons (aVal (eC (.int (7)))) (aCons (aVal (eTup (eCons (eC (.int (7))) (eCons (eC (.int (13))) (eNil))))) (aNil)))))) (eTup (eCons (eC (.int (3))) (eCons (eC (.int (4))) (eNil)))))))) (ret .next)))))
theorem e_law (svs : List SV) : F_law svs = finF svs (B_law (envOf N_law svs)) := by kernel_rfl
def BP_law : M O := (sSeq (sFor (iRng rng1 (eCons (eFn gMax (eCons (eC (.int (1))) (eCons (eFn gMin (eCons (eC (.int (4))) (eCons (eFnO gLen 0) (eNil)))) (eNil)))) (eNil))) (.nm 1) (sSeq (sSetU 3 (uCallL [false, false] 2 FP__law_dice (aCons (aRefV 0) (aCons (aRefV 1) (aNil))))) (sSeq (sFor (iRng rng1 (eCons (eC (.int (4))) (eNil))) (.nm 4) (sSeq (sIf (tNotM (eTru (eCall 1 FP__law_right (aCons (aRefV 3) (aNil))))) (sSeq (sRetU (uVal (eC (.bl false)))) (ret .next)) (ret .next)) (ret .next))) (ret .next)))) (sSeq (sAsg (.tp [(.nm 5), (.nm 6)]) (eTup (eCons (eTup (eCons (eC (.str "step")) (eCons (eTup (eCons (eC (.int (1))) (eCons (eC (.int (2))) (eNil)))) (eNil)))) (eCons (eTup (eCons (eC (.str "step")) (eCons (eTup (eCons (eC (.int (1))) (eCons (eC (.int (1))) (eNil)))) (eNil)))) (eNil))))) (sSeq (sSetU 2 (uOwn (eLstO (eCons (eCallL [false, false, false, false] 4 FP_seats_span (aCons (aRefV 6) (aCons (aVal (eC (.int (2)))) (aCons (aVal (eC (.int (3)))) (aCons (aVal (eTup (eCons (eC (.int (1))) (eCons (eC (.int (4))) (eNil))))) (aNil)))))) (eCons (eCallL [false, false, false, false] 4 FP_seats_span (aCons (aRefV 5) (aCons (aVal (eC (.int (2)))) (aCons (aVal (eC (.int (3)))) (aCons (aVal (eTup (eCons (eC (.int (1))) (eCons (eC (.int (2))) (eNil))))) (aNil)))))) (eCons (eCallL [false, false, false, false] 4 FP_house_from (aCons (aRefV 6) (aCons (aVal (eC (.int (2)))) (aCons (aVal (eTup (eCons (eC (.int (1))) (eCons (eC (.int (4))) (eNil))))) (aCons (aVal (eC (.int (1)))) (aNil)))))) (eNil))))))) (sSeq (sRetU (uVal (eAndV (eOpL gEq 2 (eOfF (eLstO (eCons (eTup (eCons (eC (.int (0))) (eCons (eC (.int (1))) (eNil)))) (eCons (eTup (eCons (eC (.int (1))) (eCons (eC (.int (2))) (eNil)))) (eCons (eC (.int (3))) (eNil))))))) (eOp gEq (eCallL [false, false, false, false] 4 FP_seats_span (aCons (aRefV 5) (aCons (aVal (eC (.int (3)))) (aCons (aVal (eC (.int (7)))) (aCons (aVal (eTup (eCons (eC (.int (7))) (eCons (eC (.int (13))) (eNil))))) (aNil)))))) (eTup (eCons (eC (.int (3))) (eCons (eC (.int (4))) (eNil)))))))) (ret .next)))))
def FP_law : Fn := fun svs => finF svs (BP_law (envOf N_law svs))
theorem b_law : B_law = BP_law := by unfold B_law BP_law; simp only [p__law_dice, p__law_right, p_house_from, p_seats_span]
theorem p_law : F_law = FP_law := by funext svs; rw [e_law, b_law]; rfl
def GP47 : Gm := ⟨("law", .fn 1 [false] FP_law) :: GP46.tab, fu, xms⟩
theorem gp47 : G47 = GP47 := by unfold G47 GP47; rw [p_law, gp46]
end LW

set_option maxRecDepth 100000
namespace PL
open PySem PySem.Spec PyProof.Rows L2
/-! ### greatest common divisors, fractions -/
theorem euclid_loop {c : M Bool} {b : M O} {E : Int → Int → Env} (hc : ∀ x y, 0 ≤ x → 0 ≤ y → c (E x y) = .ok (decide (y ≠ 0)) (E x y)) (hb : ∀ x y, 0 ≤ x → 0 < y → b (E x y) = .ok .next (E y (x % y))) :
    ∀ (m : Nat) (x y : Int), 0 ≤ x → 0 ≤ y → y < 2 ^ m → ∀ n, 2 * m + 1 ≤ n → whileN c b n (E x y) = .ok .next (E (Int.gcd x y) 0)
  | m, x, y, hx, hy, hm, n, hn => by
    obtain ⟨n, rfl⟩ : ∃ k, n = k + 1 := ⟨n - 1, by omega⟩
    by_cases h0 : y = 0
    · subst h0
      rw [while_ff (by rw [hc x 0 hx (by omega)]; rfl), Int.gcd_zero_right]
      congr 1
      rw [Int.natAbs_of_nonneg hx]
    · have c1 : c (E x y) = .ok true (E x y) := by rw [hc x y hx hy]; simp [h0]
      rw [while_tt c1 (hb x y hx (by omega))]
      have r0 := Int.emod_nonneg x h0
      have r1 := Int.emod_lt_of_pos x (show 0 < y by omega)
      have g1 : Int.gcd x y = Int.gcd y (x % y) := by
        rw [Int.gcd_comm x y]
        unfold Int.gcd
        rw [Int.natAbs_emod x h0, if_pos (.inl hx)]
        rw [Nat.gcd_rec y.natAbs x.natAbs, Nat.gcd_comm]
      cases m with
      | zero =>
        exfalso
        simp at hm
        omega
      | succ m =>
        obtain ⟨n, rfl⟩ : ∃ k, n = k + 1 := ⟨n - 1, by omega⟩
        by_cases h1 : x % y = 0
        · rw [h1] at g1 ⊢
          rw [while_ff (by rw [hc y 0 hy (by omega)]; rfl), g1, Int.gcd_zero_right, Int.natAbs_of_nonneg hy]
        · have c2 : c (E y (x % y)) = .ok true (E y (x % y)) := by rw [hc y _ hy r0]; simp [h1]
          rw [while_tt c2 (hb y (x % y) hy (by omega))]
          have s0 := Int.emod_nonneg y h1
          have s1 := Int.emod_lt_of_pos y (show 0 < x % y by omega)
          have g2 : Int.gcd y (x % y) = Int.gcd (x % y) (y % (x % y)) := by
            rw [Int.gcd_comm y (x % y)]
            unfold Int.gcd
            rw [Int.natAbs_emod y h1, if_pos (.inl hy)]
            rw [Nat.gcd_rec (x % y).natAbs y.natAbs, Nat.gcd_comm]
          have half : 2 * (y % (x % y)) < y := by
            have e := Int.mul_ediv_add_emod y (x % y)
            have q : 1 ≤ y / (x % y) := by
              have := Int.ediv_le_ediv (show 0 < x % y by omega) (Int.le_of_lt r1)
              rw [Int.ediv_self h1] at this
              exact this
            have : (x % y) * 1 ≤ (x % y) * (y / (x % y)) := Int.mul_le_mul_of_nonneg_left q r0
            omega
          have hm2 : y % (x % y) < 2 ^ m := by
            have : (2 : Int) ^ (m + 1) = 2 * 2 ^ m := by rw [Int.pow_succ]; omega
            omega
          rw [euclid_loop hc hb m (x % y) (y % (x % y)) r0 s0 hm2 n (by omega), g1, g2]
/-- a fraction above a positive number, in lowest terms -/
def frac (t b : Int) : D := .tup [.int (t / (Int.gcd t b : Int)), .int (b / (Int.gcd t b : Int))]
theorem gcd_pos {t b : Int} (hb : 0 < b) : 0 < (Int.gcd t b : Int) := by
  have : 0 < Int.gcd t b := Int.gcd_pos_of_ne_zero_right _ (by omega)
  omega
theorem gcd_le {t b : Int} (hb : 0 < b) : (Int.gcd t b : Int) ≤ b := by
  have h : (Int.gcd t b : Int) ∣ b := Int.gcd_dvd_right ..
  exact Int.le_of_dvd hb h
/-- the same fraction of both sides multiplied -/
theorem frac_mul {t b k : Int} (hk : 0 < k) (hb : 0 < b) : frac (k * t) (k * b) = frac t b := by
  unfold frac
  have e : (Int.gcd (k * t) (k * b) : Int) = k * (Int.gcd t b : Int) := by
    rw [Int.gcd_mul_left]
    rw [Int.natCast_mul, Int.natAbs_of_nonneg (by omega)]
  rw [e, Int.mul_ediv_mul_of_pos _ _ hk, Int.mul_ediv_mul_of_pos _ _ hk]
theorem frac_top {t b : Int} : (Int.gcd t b : Int) * (t / (Int.gcd t b : Int)) = t := Int.mul_ediv_cancel' (Int.gcd_dvd_left ..)
theorem frac_bot {t b : Int} : (Int.gcd t b : Int) * (b / (Int.gcd t b : Int)) = b := Int.mul_ediv_cancel' (Int.gcd_dvd_right ..)
theorem bot_pos {t b : Int} (hb : 0 < b) : 0 < b / (Int.gcd t b : Int) := by
  have h1 := gcd_pos (t := t) hb
  have h2 := frac_bot (t := t) (b := b)
  rcases Int.lt_or_le 0 (b / (Int.gcd t b : Int)) with h | h
  · exact h
  · have : (Int.gcd t b : Int) * (b / (Int.gcd t b : Int)) ≤ 0 := Int.mul_nonpos_of_nonneg_of_nonpos (by omega) h
    omega
/-- equal fractions, one form -/
theorem frac_eq {t b t' b' : Int} (hb : 0 < b) (hb' : 0 < b') (h : t * b' = t' * b) : frac t b = frac t' b' := by
  rw [← frac_mul hb' hb, ← frac_mul (t := t') hb hb', Int.mul_comm b' t, h, Int.mul_comm t' b, Int.mul_comm b' b]
theorem frac_one {t : Int} {k : Int} (hk : 0 < k) : frac (t * k) k = .tup [.int t, .int 1] := by
  rw [Int.mul_comm]
  have := frac_mul (t := t) (b := 1) hk (by decide)
  rw [Int.mul_one] at this
  rw [this]
  unfold frac
  rw [Int.gcd_one_right]
  simp
end PL
namespace PL
open PySem PySem.Spec PyProof.Rows L2
section
variable {env env1 : Env} {α : Type}
theorem lcL_mapA {vs : List Nat} {t : Tg} {c : M Bool} {e : M D} (mk g : α → D) : ∀ as : List α, (∀ a ∈ as, ∃ e1 e2 e3, asg t (mk a) env = some e1 ∧ c e1 = .ok true e2 ∧ e e2 = .ok (g a) e3 ∧ wipeE e3 vs = env) → lcL vs t c e (as.map mk) env = .ok (as.map g) env
  | [], _ => rfl
  | a :: as, h => by
    obtain ⟨e1, e2, e3, h1, h2, h3, h4⟩ := h a (List.mem_cons_self ..)
    have ih := lcL_mapA mk g as fun x hx => h x (List.mem_cons_of_mem _ hx)
    rw [← h4] at ih
    have := lcL_step (lcT_some h1 h2 h3) ih
    rw [List.map_cons, this, h4]
    rfl
theorem eLc_mapA {f : M (List D)} {vs : List Nat} {t : Tg} {c : M Bool} {e : M D} (mk g : α → D) (as : List α) (h1 : f env = .ok (as.map mk) env1) (hz : as.length ≤ 16777216)
    (h : ∀ a ∈ as, ∃ e1 e2 e3, asg t (mk a) (wipeE env1 vs) = some e1 ∧ c e1 = .ok true e2 ∧ e e2 = .ok (g a) e3 ∧ wipeE e3 vs = wipeE env1 vs) : eLc f vs t c e env = .ok (as.map g) env1 := by
  rw [eLc_of h1 (by simpa using hz) (lcL_mapA mk g as h), rest_wipe]
end
theorem frac_below {t b : Int} (hb : 0 < b) : t / (Int.gcd t b : Int) / (b / (Int.gcd t b : Int)) = t / b := by
  have h1 := gcd_pos (t := t) hb
  have := Int.mul_ediv_mul_of_pos (t / (Int.gcd t b : Int)) (b / (Int.gcd t b : Int)) h1
  rw [frac_top, frac_bot] at this
  exact this.symm
theorem bot_le {t b : Int} (hb : 0 < b) : b / (Int.gcd t b : Int) ≤ b := Int.ediv_le_self _ (Int.le_of_lt hb)
/-- a fraction with a whole number taken away -/
theorem frac_less {t b z : Int} (hb : 0 < b) : frac (t / (Int.gcd t b : Int) * 1 - z * (b / (Int.gcd t b : Int))) (b / (Int.gcd t b : Int) * 1) = frac (t - z * b) b := by
  have h1 := gcd_pos (t := t) hb
  rw [Int.mul_one, Int.mul_one]
  have := frac_mul (t := t / (Int.gcd t b : Int) - z * (b / (Int.gcd t b : Int))) h1 (bot_pos (t := t) hb)
  rw [← this, frac_bot, Int.mul_sub, frac_top, ← Int.mul_assoc, Int.mul_comm _ z, Int.mul_assoc, frac_bot]
/-- the sum of two fractions above the same number -/
theorem frac_add {s t b : Int} (hb : 0 < b) : frac (s / (Int.gcd s b : Int) * (b / (Int.gcd t b : Int)) + t / (Int.gcd t b : Int) * (b / (Int.gcd s b : Int))) (b / (Int.gcd s b : Int) * (b / (Int.gcd t b : Int))) = frac (s + t) b := by
  have h1 := gcd_pos (t := s) hb
  have h2 := gcd_pos (t := t) hb
  have e1 := frac_top (t := s) (b := b)
  have e2 := frac_bot (t := s) (b := b)
  have e3 := frac_top (t := t) (b := b)
  have e4 := frac_bot (t := t) (b := b)
  have p1 := bot_pos (t := s) hb
  have p2 := bot_pos (t := t) hb
  generalize (Int.gcd s b : Int) = g at *
  generalize (Int.gcd t b : Int) = k at *
  generalize s / g = x at *
  generalize b / g = y at *
  generalize t / k = z at *
  generalize b / k = u at *
  refine frac_eq (Int.mul_pos p1 p2) hb ?_
  have : (x * u + z * y) * b * (g * k) = (s + t) * (y * u) * (g * k) := by
    calc (x * u + z * y) * b * (g * k) = ((g * x) * (k * u) + (k * z) * (g * y)) * b := by
          simp only [Int.add_mul, Int.mul_add, Int.mul_comm, Int.mul_left_comm, Int.mul_assoc]
        _ = (s + t) * b * b := by rw [e1, e2, e3, e4]; simp only [Int.add_mul]
        _ = (s + t) * (g * y) * (k * u) := by rw [e2, e4]
        _ = (s + t) * (y * u) * (g * k) := by simp only [Int.mul_comm, Int.mul_left_comm]
  exact Int.eq_of_mul_eq_mul_right (Int.ne_of_gt (Int.mul_pos h1 h2)) this
end PL
namespace PL
open PySem PySem.Spec PyProof.Rows L2
theorem eLc_mapP {env env1 : Env} {α : Type} {f : M (List D)} {vs : List Nat} {t : Tg} {c : M Bool} {e : M D} (mk g : α → D) (as : List α) (h1 : f env = .ok (as.map mk) env1) (hz : as.length ≤ 16777216)
    (h : ∀ a ∈ as, ∃ e1, asg t (mk a) (wipeE env1 vs) = some e1 ∧ c e1 = .ok true e1 ∧ e e1 = .ok (g a) e1 ∧ wipeE e1 vs = wipeE env1 vs) : eLc f vs t c e env = .ok (as.map g) env1 :=
  eLc_mapA mk g as h1 hz fun a ha => by
    obtain ⟨e1, k1, k2, k3, k4⟩ := h a ha
    exact ⟨e1, e1, e1, k1, k2, k3, k4⟩
end PL

set_option maxHeartbeats 0
set_option exponentiation.threshold 20000
namespace LW
open PySem PL L2
@[simp] theorem ge_zero {α : Type} {a : α} {l : List α} : (a :: l)[0]? = some a := rfl
@[simp] theorem ge_succ {α : Type} {a : α} {l : List α} {n : Nat} : (a :: l)[n + 1]? = l[n]? := rfl
section
variable {env env1 : PL.Env}
@[simp] theorem w_finX {svs : List SV} {x : Ex} : finF svs (.exc x env) = (match outsOf svs env with
  | some outs => .exc x outs
  | none => .stuck) := rfl
@[simp] theorem v_raise1 {x : PySem.Str} {f : M D} : sRaise1 x f env = (f env).bind fun d => fun e => .exc ⟨x, some d⟩ e := rfl
@[simp] theorem w_setTwo {i j : Nat} {fi fj ft : M D} : sSetTwo i j fi fj ft env = (ft env).bind fun d => (match d with
  | .tup [d1, d2] => bnd (chk i) fun _ => bnd fi fun k1 => bnd (setIx i k1 d1) fun _ => bnd (chk j) fun _ => bnd fj fun k2 => setIx j k2 d2
  | _ => sStuck) := rfl
@[simp] theorem v_eCallL {ios : List Bool} {np : Nat} {F : Fn} {f : M (List AV)} : eCallL ios np F f env = (f env).bind fun avs => bnd (callL ios np F avs) fun r => lif (asVal r) := rfl
@[simp] theorem v_uCallL {ios : List Bool} {np : Nat} {F : Fn} {f : M (List AV)} : uCallL ios np F f env = (f env).bind fun avs => bnd (callL ios np F avs) fun r => lif (asU r) := rfl
@[simp] theorem v_callL {ios : List Bool} {np : Nat} {F : Fn} {avs : List AV} : callL ios np F avs env = callN np F (lendL env ios avs).1 (lendL env ios avs).2 env := rfl
@[simp] theorem v_callN {np : Nat} {F : Fn} {avs : List AV} : callN np F avs [] env = callF np F avs env := rfl
@[simp] theorem v_lend0 : lendL env [] [] = ([], []) := rfl
@[simp] theorem v_lendV {b : Bool} {ios : List Bool} {d : D} {r : List AV} : lendL env (b :: ios) (.val d :: r) = (.val d :: (lendL env ios r).1, (lendL env ios r).2) := by cases b <;> rfl
@[simp] theorem v_lendT {ios : List Bool} {i : Nat} {r : List AV} : lendL env (true :: ios) (.ref i :: r) = (.ref i :: (lendL env ios r).1, (lendL env ios r).2) := rfl
@[simp] theorem v_expr {f : M D} : sExpr f env = (f env).bind fun _ => PL.ret .next := rfl
@[simp] theorem v_raise0 {x : PySem.Str} : sRaise0 x env = .exc ⟨x, none⟩ env := rfl
@[simp] theorem v_lendC0 {f : M (List D)} : lendC [] f = f := rfl
@[simp] theorem v_lendC {j : Nat} {ls : List Nat} {f : M (List D)} : lendC (j :: ls) f = lendM (j :: ls) f := rfl
@[simp] theorem v_asg {t : Tg} {f : M D} : sAsg t f env = (f env).bind fun d => fun e => (match asg t d e with
  | some e' => .ok .next e'
  | none => .stuck) := rfl
theorem lendM_no {ls : List Nat} {f : M (List D)} (h : ownL env ls = []) : lendM ls f env = f env := by unfold lendM; rw [h]
theorem lendM_val {j : Nat} {d : D} {f : M (List D)} (h : env[j]? = some (.val d)) : lendM [j] f env = f env := lendM_no (by simp [ownL, h, isOwn])
end
abbrev dc (l b c : Int) : SV := .own true [.int l, .int b, .int c]
theorem small_of {x : Int} {n : Nat} (h0 : 0 ≤ x) (h1 : x < n) (h2 : n ≤ 2 ^ 64) : x.natAbs < 2 ^ 64 := by omega
theorem roll_ok (l b c t : Int) (ht : 0 < t) (hz : t.natAbs.log2 < 9000) : ∃ r l' c', FP__law_roll [dc l b c, .val (.int t)] = .ok (.val (.int r)) [dc l' b c', .none] ∧ 0 ≤ r ∧ r < t := by
  unfold FP__law_roll BP__law_roll
  by_cases hl : 0 < l
  · refine ⟨l % t, l / t, c, ?_, Int.emod_nonneg _ (by omega), Int.emod_lt_of_pos _ ht⟩
    simp [envOf, N__law_roll, ixN, hl, ht, hz]
  · have h1 : mulOk ((b + 15486209 * (c + 1)) % 2305843009213693951) ((b + 15486209 * (c + 1)) % 2305843009213693951) = true :=
      mulOk_l (small_of (n := 2305843009213693951) (Int.emod_nonneg _ (by decide)) (Int.emod_lt_of_pos _ (by decide)) (by decide))
    have h2 : mulOk 15486209 (c + 1) = true := mulOk_l (by decide)
    have h3 : mulOk 199 (c + 1) = true := mulOk_l (by decide)
    have h4 : ∀ x, mulOk x 7368751 = true := fun x => mulOk_r (by decide)
    have h5 : Nat.log2 65536 < 9000 := by decide
    refine ⟨(((((b + 15486209 * (c + 1)) % 2305843009213693951) * ((b + 15486209 * (c + 1)) % 2305843009213693951) + 199 * (c + 1)) % 2305843009213693907 * 7368751 + (b + 15486209 * (c + 1)) % 2305843009213693951) / 65536) % t, l, c + 1, ?_, Int.emod_nonneg _ (by omega), Int.emod_lt_of_pos _ ht⟩
    simp [envOf, N__law_roll, ixN, hl, ht, hz, h1, h2, h3, h4, h5]
theorem fitV {n : Nat} (h : n ≤ 100 := by decide) : fits n = true := fits_of (Nat.le_trans h (by decide))
theorem small_log {t : Int} (h0 : 0 < t) (h1 : t ≤ 1000000000) : t.natAbs.log2 < 9000 := (Nat.log2_lt (by omega)).mpr (Nat.lt_of_lt_of_le (show t.natAbs < 2 ^ 64 by omega) (Nat.pow_le_pow_right (by decide) (by decide)))
theorem rolled (l b c t : Int) (h0 : 0 < t) (h1 : t ≤ 1000000000) : ∃ r l' c', FP__law_roll [dc l b c, .val (.int t)] = .ok (.val (.int r)) [dc l' b c', .none] ∧ 0 ≤ r ∧ r < t := roll_ok l b c t h0 (small_log h0 h1)
theorem nat_abs {x : Int} (h : 0 ≤ x) : (if x < 0 then -x else x) = x := if_neg (by omega)
/-! the package's divisor -/
theorem abs_nn {x : Int} : 0 ≤ (if x < 0 then -x else x) := by split <;> omega
theorem gcd_abs {t b : Int} : Int.gcd (if t < 0 then -t else t) b = Int.gcd t b := by
  split
  · rw [Int.neg_gcd]
  · rfl
theorem common_ok {x y : Int} (hy : 0 ≤ y) (hb : y < 2 ^ 4000) : FP_common_divisor [.val (.int x), .val (.int y)] = .ok (.val (.int (Int.gcd x y))) [.none, .none] := by
  unfold FP_common_divisor BP_common_divisor
  have lp := euclid_loop (c := eTruB 3) (b := (sSeq (sPar2 2 3 (uCons (uVal (eVar 3)) (uCons (uVal (eOp gMod (eVar 2) (eVar 3))) (uNil)))) (PL.ret .next))) (E := fun a b => [.val (.int x), .val (.int y), .val (.int a), .val (.int b)])
    (fun a b ha hb' => by simp [bne, beq_iff_eq] <;> rfl) (fun a b ha hb' => by simp [hb']) 4000 _ y (abs_nn (x := x)) hy hb 1000000 (by decide)
  rw [gcd_abs] at lp
  simp [envOf, N_common_divisor, nat_abs hy, lp]
theorem law_div_ok {x y : Int} (hy : 0 ≤ y) (hb : y < 2 ^ 4000) : FP__law_divisor [.val (.int x), .val (.int y)] = .ok (.val (.int (Int.gcd x y))) [.none, .none] := by
  unfold FP__law_divisor BP__law_divisor
  have lp := euclid_loop (c := (eTB (eOpL gGt 1 (eC (.int (0)))))) (b := (sSeq (sPar2 0 1 (uCons (uVal (eVar 1)) (uCons (uVal (eOp gMod (eFnB gInt 0) (eVar 1))) (uNil)))) (PL.ret .next))) (E := fun a b => [.val (.int a), .val (.int b)])
    (fun a b ha hb' => by simp [show (0 < b) ↔ ¬ b = 0 by omega]) (fun a b ha hb' => by simp [hb']) 4000 _ y (abs_nn (x := x)) hy hb 1000000 (by decide)
  rw [gcd_abs] at lp
  simp [envOf, N__law_divisor, nat_abs hy, lp]
theorem lg {x : Int} (h : x.natAbs < 2 ^ 9000) : x.natAbs.log2 < 9000 := by
  by_cases hz : x.natAbs = 0
  · rw [hz]; decide
  · rw [Nat.log2_lt hz]; exact h
theorem gcd_lg {t b : Int} (hb : 0 < b) (hz : b < 2 ^ 4000) : ((Int.gcd t b : Int)).natAbs.log2 < 9000 := by
  refine lg ?_
  have h1 := gcd_le (t := t) hb
  have h2 : (Int.gcd t b : Int) < 2 ^ 4000 := Int.lt_of_le_of_lt h1 hz
  have h3 : ((2 : Int) ^ 4000) = ((2 ^ 4000 : Nat) : Int) := by rw [Int.natCast_pow]; rfl
  rw [h3] at h2
  have h4 : (Int.gcd t b) < 2 ^ 4000 := Int.ofNat_lt.mp h2
  rw [Int.natAbs_natCast]
  exact Nat.lt_of_lt_of_le h4 (Nat.pow_le_pow_right (by decide) (by decide))
theorem mul_one_ok {x : Int} : mulOk x 1 = true := mulOk_r (by decide)
theorem fraction_ok {t b : Int} (hb : 0 < b) (hz : b < 2 ^ 4000) : FP_fraction [.val (.int t), .val (.int b)] = .ok (.val (frac t b)) [.none, .none] := by
  unfold FP_fraction BP_fraction
  have g1 : (0 : Int) < (Int.gcd t b : Int) := gcd_pos hb
  have g2 := gcd_lg (t := t) hb hz
  simp only [Int.natAbs_natCast] at g2
  simp [envOf, N_fraction, common_ok (x := t) (Int.le_of_lt hb) hz, hb, mul_one_ok, g1, g2, fitV, frac, -Int.natCast_pos]
theorem law_fraction_ok {t b : Int} (hb : 0 < b) (hz : b < 2 ^ 4000) : FP__law_fraction [.val (.int t), .val (.int b)] = .ok (.val (frac t b)) [.none, .none] := by
  unfold FP__law_fraction BP__law_fraction
  have g1 : (0 : Int) < (Int.gcd t b : Int) := gcd_pos hb
  have g2 := gcd_lg (t := t) hb hz
  simp only [Int.natAbs_natCast] at g2
  simp [envOf, N__law_fraction, law_div_ok (x := t) (Int.le_of_lt hb) hz, hb, mul_one_ok, g1, g2, fitV, frac, -Int.natCast_pos]
theorem law_pick_ok (items : List D) (h0 : 0 < items.length) (h1 : items.length ≤ 1000) (l b c : Int) : ∃ d l' c', d ∈ items ∧ FP__law_pick [dc l b c, .val (.lst items)] = .ok (.val d) [dc l' b c', .none] := by
  obtain ⟨n, hn⟩ : ∃ n : Int, (items.length : Int) = n := ⟨_, rfl⟩
  have hl : gLen [.lst items] = some (.int n) := by rw [← hn]; rfl
  obtain ⟨r, l', c', e, r1, r2⟩ := rolled l b c n (by omega) (by omega)
  have hj : r.toNat < items.length := by omega
  have at_ : atI items r = some items[r.toNat] := by
    have := atI_nat (xs := items) (j := r.toNat) (v := items[r.toNat]) (List.getElem?_eq_getElem hj)
    rwa [Int.toNat_of_nonneg r1] at this
  refine ⟨items[r.toNat], l', c', List.getElem_mem _, ?_⟩
  generalize items[r.toNat] = it at *
  unfold FP__law_pick BP__law_pick
  simp (disch := omega) [envOf, mulOk_l, mulOk_r, fits_of, dTru, N__law_pick, hl, e, at_, -w_lenL]
abbrev fr (t b : Int) : D := .tup [.int t, .int b]
abbrev tv (vs : List Int) : D := .tup (vs.map .int)
theorem ints_of {P : Int → Prop} : ∀ ys : List D, (∀ y ∈ ys, ∃ z, y = .int z ∧ P z) → ∃ zs : List Int, ys = zs.map .int ∧ ∀ z ∈ zs, P z
  | [], _ => ⟨[], rfl, by simp⟩
  | y :: ys, h => by
    obtain ⟨z, e, p⟩ := h y (List.mem_cons_self ..)
    obtain ⟨zs, e2, p2⟩ := ints_of ys fun u hu => h u (List.mem_cons_of_mem _ hu)
    refine ⟨z :: zs, by rw [e, e2]; rfl, fun u hu => ?_⟩
    rcases List.mem_cons.mp hu with rfl | hu
    · exact p
    · exact p2 u hu
theorem rngL_len : ∀ (n : Nat) (lo : Int), (rngL lo n).length = n
  | 0, _ => rfl
  | n + 1, lo => by rw [rngL, List.length_cons, rngL_len n]
theorem asInts_map : ∀ ns : List Int, asInts (ns.map D.int) = some ns
  | [] => rfl
  | n :: ns => by simp only [List.map_cons, asInts, asInts_map ns]; rfl
theorem lim62_natM {m : Int} (h0 : 0 ≤ m) (h1 : m ≤ 1000) : lim62 m = true := by
  unfold lim62
  rw [decide_eq_true (by omega), decide_eq_true (by omega)]
  rfl
theorem rng1_natM {m : Int} (h0 : 0 ≤ m) (h1 : m ≤ 1000) : rng1 [.int m] = some (rngL 0 m.toNat) := by
  show (if lim62 m = true then some (rngL 0 m.toNat) else none) = _
  rw [if_pos (lim62_natM h0 h1)]
theorem whole_ok {x : Int} : FP_is_whole [.val (.int x)] = .ok (.val (.bl true)) [.none] := by
  unfold FP_is_whole BP_is_whole; rfl
theorem pair_ok {x y : D} : FP_is_pair [.val (.tup [x, y])] = .ok (.val (.bl true)) [.none] := by
  unfold FP_is_pair BP_is_pair; rfl
theorem isfrac_ok {t b : Int} (hb : 0 < b) (hz : b < 2 ^ 4000) (hg : Int.gcd t b = 1) : FP_is_fraction [.val (fr t b)] = .ok (.val (.bl true)) [.none] := by
  unfold FP_is_fraction BP_is_fraction
  have c := common_ok (x := t) (Int.le_of_lt hb) hz
  rw [hg] at c
  simp [envOf, N_is_fraction, pair_ok, whole_ok, dTru, c, show ¬ b < 1 by omega]
theorem gcd_low {t b : Int} (hb : 0 < b) : Int.gcd (t / (Int.gcd t b : Int)) (b / (Int.gcd t b : Int)) = 1 := by
  have h1 := gcd_pos (t := t) hb
  have h2 : (Int.gcd t b : Int) * (Int.gcd (t / (Int.gcd t b : Int)) (b / (Int.gcd t b : Int)) : Int) = (Int.gcd t b : Int) * 1 := by
    have e := Int.gcd_mul_left (Int.gcd t b : Int) (t / (Int.gcd t b : Int)) (b / (Int.gcd t b : Int))
    rw [frac_top, frac_bot] at e
    have e2 : ((Int.gcd t b : Nat) : Int) = ((Int.gcd t b : Int).natAbs * Int.gcd (t / (Int.gcd t b : Int)) (b / (Int.gcd t b : Int)) : Nat) := congrArg Int.ofNat e
    rw [Int.natCast_mul, Int.natAbs_natCast] at e2
    rw [Int.mul_one]; exact e2.symm
  have := Int.eq_of_mul_eq_mul_left (Int.ne_of_gt h1) h2
  exact_mod_cast this
theorem big_of {b : Int} (h : b ≤ 1000000000000) : b < 2 ^ 4000 := Int.lt_of_le_of_lt h (by decide)
/-! both factors are below a great bound -/
theorem is_less_ok {a b c d : Int} (m1 : mulOk a d = true) (m2 : mulOk c b = true) : FP_is_less [.val (fr a b), .val (fr c d)] = .ok (.val (.bl (decide (a * d < c * b)))) [.none, .none] := by
  unfold FP_is_less BP_is_less
  simp [envOf, N_is_less, m1, m2]
theorem _law_fr_less_ok {a b c d : Int} (m1 : mulOk a d = true) (m2 : mulOk c b = true) : FP__law_fr_less [.val (fr a b), .val (fr c d)] = .ok (.val (.bl (decide (a * d < c * b)))) [.none, .none] := by
  unfold FP__law_fr_less BP__law_fr_less
  simp [envOf, N__law_fr_less, m1, m2]
theorem is_at_most_ok {a b c d : Int} (m1 : mulOk a d = true) (m2 : mulOk c b = true) : FP_is_at_most [.val (fr a b), .val (fr c d)] = .ok (.val (.bl (decide (a * d ≤ c * b)))) [.none, .none] := by
  unfold FP_is_at_most BP_is_at_most
  simp [envOf, N_is_at_most, m1, m2]
/-! votes and seats -/
structure VV (vs : List Int) : Prop where
  n1 : 1 ≤ vs.length
  n2 : vs.length ≤ 10
  lo : ∀ v ∈ vs, 1 ≤ v
  hi : ∀ v ∈ vs, v ≤ 1000000000
structure SE (n : Nat) (ss : List Int) : Prop where
  n : ss.length = n
  lo : ∀ s ∈ ss, 0 ≤ s
  sum : ss.sum ≤ 200
theorem mem_le_sum : ∀ {ss : List Int}, (∀ s ∈ ss, 0 ≤ s) → ∀ s ∈ ss, s ≤ ss.sum
  | [], _, s, h => by cases h
  | a :: ss, h, s, hs => by
    have nn : ∀ {l : List Int}, (∀ s ∈ l, 0 ≤ s) → 0 ≤ l.sum := fun {l} h => by
      induction l with
      | nil => simp
      | cons a l ih =>
        have := ih fun x hx => h x (List.mem_cons_of_mem _ hx)
        have := h a (List.mem_cons_self ..)
        rw [List.sum_cons]; omega
    have h0 := h a (List.mem_cons_self ..)
    have h1 := nn (l := ss) fun x hx => h x (List.mem_cons_of_mem _ hx)
    rw [List.sum_cons]
    rcases List.mem_cons.mp hs with rfl | hs
    · omega
    · have := mem_le_sum (ss := ss) (fun x hx => h x (List.mem_cons_of_mem _ hx)) s hs
      omega
theorem SE.hi {n : Nat} {ss : List Int} (h : SE n ss) : ∀ s ∈ ss, s ≤ 200 := fun s hs => Int.le_trans (mem_le_sum h.lo s hs) h.sum
theorem gSum_tv {vs : List Int} : gSum [tv vs] = some (.int vs.sum) := by
  simp only [gSum, asInts_map]; rfl
theorem len_tv {vs : List Int} : gLen [tv vs] = some (.int vs.length) := by
  show some (D.int ((vs.map D.int).length : Int)) = _
  rw [List.length_map]
theorem drawn_lc {b : Int} {e : M D} {P : Int → Prop} {x1 x3 x4 : SV} {m : Int} (h0 : 0 ≤ m) (h9 : m ≤ 1000) (he : ∀ l c p, ∃ z l' c', e [dc l b c, x1, .val (.int m), x3, x4, .val p] = .ok (.int z) [dc l' b c', x1, .val (.int m), x3, x4, .val p] ∧ P z) (l c : Int) :
    ∃ (zs : List Int) (l' c' : Int), eLc (iRng rng1 (eCons (eVar 2) (eNil))) [5] (.nm 5) (PL.ret true) e [dc l b c, x1, .val (.int m), x3, x4, .none] = .ok (zs.map .int) [dc l' b c', x1, .val (.int m), x3, x4, .none] ∧ zs.length = m.toNat ∧ ∀ z ∈ zs, P z := by
  obtain ⟨ys, env', h1, ⟨l', c', h2⟩, h3, h4⟩ := lcL_inv (vs := [5]) (t := .nm 5) (c := PL.ret true) (e := e) (fun env => ∃ l c, env = [dc l b c, x1, .val (.int m), x3, x4, .none]) (fun y => ∃ z, y = .int z ∧ P z) (rngL 0 m.toNat) [dc l b c, x1, .val (.int m), x3, x4, .none] ⟨l, c, rfl⟩ (by
    rintro d _ env ⟨l, c, rfl⟩
    obtain ⟨z, l', c', k1, k2⟩ := he l c d
    exact ⟨_, _, _, _, rfl, rfl, k1, ⟨z, rfl, k2⟩, l', c', rfl⟩)
  obtain ⟨zs, e1, e2⟩ := ints_of ys h3
  refine ⟨zs, l', c', ?_, ?_, e2⟩
  · subst e1 h2
    have f : iRng rng1 (eCons (eVar 2) (eNil)) [dc l b c, x1, .val (.int m), x3, x4, .none] = .ok (rngL 0 m.toNat) [dc l b c, x1, .val (.int m), x3, x4, .none] := by
      have q : (eCons (eVar 2) (eNil)) [dc l b c, x1, .val (.int m), x3, x4, .none] = .ok [.int m] [dc l b c, x1, .val (.int m), x3, x4, .none] := rfl
      unfold iRng
      rw [bnd_ok q, rng1_natM h0 h9]
      exact w_lifS
    rw [eLc_of f (by rw [rngL_len]; omega) h1]
    simp [restE, svAt]
  · rw [e1] at h4
    rw [rngL_len] at h4
    simpa using h4
theorem votes_ok (l b c : Int) {M : Int} (M1 : 1 ≤ M) (M2 : M ≤ 10) : ∃ vs l' c', FP__law_votes [dc l b c, .val (.int M)] = .ok (.val (tv vs)) [dc l' b c', .none] ∧ VV vs ∧ (vs.length : Int) ≤ M := by
  unfold FP__law_votes BP__law_votes
  obtain ⟨r1, l1, c1, e1, a1, a2⟩ := rolled l b c M (by omega) (by omega)
  obtain ⟨r2, l2, c2, e2, b1, b2⟩ := rolled l1 b c1 6 (by decide) (by decide)
  obtain ⟨m, hm⟩ : ∃ m : Int, 1 + r1 = m := ⟨_, rfl⟩
  have n1 : 1 ≤ m := by omega
  have n2 : m ≤ 10 := by omega
  have fin : ∀ zs : List Int, zs.length = m.toNat → (∀ z ∈ zs, 1 ≤ z ∧ z ≤ 1000000000) → VV zs ∧ (zs.length : Int) ≤ M := fun zs h1 h2 => ⟨⟨by omega, by omega, fun v hv => (h2 v hv).1, fun v hv => (h2 v hv).2⟩, by omega⟩
  have hw : r2 = 0 ∨ r2 = 1 ∨ r2 = 2 ∨ r2 = 3 ∨ r2 = 4 ∨ r2 = 5 := by omega
  have plus : ∀ (t : Int) (x3 : SV), 0 < t → t ≤ 1000000000 → ∀ l c p, ∃ z l' c', (eOp gAdd (eC (.int (1))) (eCall 2 FP__law_roll (aCons (aRefV 0) (aCons (aVal (eC (.int t))) (aNil))))) [dc l b c, .val (.int M), .val (.int m), x3, .none, .val p] = .ok (.int z) [dc l' b c', .val (.int M), .val (.int m), x3, .none, .val p] ∧ (1 ≤ z ∧ z ≤ 1000000000) := fun t x3 t0 t1 l c p => by
    obtain ⟨r, l', c', e, p1, p2⟩ := rolled l b c t t0 t1
    exact ⟨1 + r, l', c', by simp [e], by omega, by omega⟩
  rcases hw with hw | hw | hw | hw | hw | hw
  · subst hw
    obtain ⟨zs, l3, c3, e3, q1, q2⟩ := drawn_lc (by omega) (by omega) (plus 9 (.val (.int 0)) (by decide) (by decide)) l2 c2
    exact ⟨zs, l3, c3, by simp [envOf, N__law_votes, e1, e2, hm, e3], fin zs q1 q2⟩
  · subst hw
    obtain ⟨r, l3, c3, e3, p1, p2⟩ := rolled l2 b c2 12 (by decide) (by decide)
    refine ⟨List.replicate m.toNat (1 + r), l3, c3, ?_, fin _ (by simp) fun z hz => ?_⟩
    · have mu : gMulI (.tup [.int (1 + r)]) (.int m) = some (tv (List.replicate m.toNat (1 + r))) := by
        by_cases h1 : m = 1
        · subst h1
          rfl
        · have h5 : ∀ n : Nat, (List.replicate n [D.int (1 + r)]).flatten = (List.replicate n (1 + r)).map .int := fun n => by
            induction n with
            | zero => rfl
            | succ n ih => rw [List.replicate_succ, List.flatten_cons, ih]; rfl
          simp only [gMulI]
          rw [if_neg h1, if_neg (by simp; omega), if_pos (by simp; omega), h5]
      simp [envOf, N__law_votes, e1, e2, hm, e3, fitV, mu]
    · have := List.eq_of_mem_replicate hz
      subst this
      omega
  · subst hw
    obtain ⟨r, l3, c3, e3, p1, p2⟩ := rolled l2 b c2 30 (by decide) (by decide)
    have el : ∀ l c p, ∃ z l' c', (eOp gAdd (eOp gMulI (eVar 4) (eOp gAdd (eC (.int (1))) (eCall 2 FP__law_roll (aCons (aRefV 0) (aCons (aVal (eC (.int (6)))) (aNil)))))) (eCall 2 FP__law_roll (aCons (aRefV 0) (aCons (aVal (eC (.int (2)))) (aNil))))) [dc l b c, .val (.int M), .val (.int m), .val (.int 2), .val (.int (1 + r)), .val p] = .ok (.int z) [dc l' b c', .val (.int M), .val (.int m), .val (.int 2), .val (.int (1 + r)), .val p] ∧ (1 ≤ z ∧ z ≤ 1000000000) := fun l c p => by
      obtain ⟨u, l', c', k1, k2, k3⟩ := rolled l b c 6 (by decide) (by decide)
      obtain ⟨u2, l2', c2', j1, j2, j3⟩ := rolled l' b c' 2 (by decide) (by decide)
      have m : mulOk (1 + r) (1 + u) = true := mulOk_l (by omega)
      have m1 : (1 + r) * (1 + u) ≤ 30 * 6 := Int.mul_le_mul (by omega) (by omega) (by omega) (by omega)
      have m2 : 1 * 1 ≤ (1 + r) * (1 + u) := Int.mul_le_mul (by omega) (by omega) (by omega) (by omega)
      exact ⟨(1 + r) * (1 + u) + u2, l2', c2', by simp [k1, j1, m], by omega, by omega⟩
    obtain ⟨zs, l4, c4, e4, q1, q2⟩ := drawn_lc (by omega) (by omega) el l3 c3
    exact ⟨zs, l4, c4, by simp [envOf, N__law_votes, e1, e2, hm, e3, e4], fin zs q1 q2⟩
  · subst hw
    have el : ∀ l c p, ∃ z l' c', (eOp gAdd (eC (.int (1))) (eCall 2 FP__law_roll (aCons (aRefV 0) (aCons (aVal (eOp gPow (eC (.int (10))) (eC (.int (9))))) (aNil))))) [dc l b c, .val (.int M), .val (.int m), .val (.int 3), .none, .val p] = .ok (.int z) [dc l' b c', .val (.int M), .val (.int m), .val (.int 3), .none, .val p] ∧ (1 ≤ z ∧ z ≤ 1000000000) := fun l c p => by
      obtain ⟨u, l', c', k1, k2, k3⟩ := rolled l b c 1000000000 (by decide) (by decide)
      exact ⟨1 + u, l', c', by simp [k1], by omega, by omega⟩
    obtain ⟨zs, l4, c4, e4, q1, q2⟩ := drawn_lc (by omega) (by omega) el l2 c2
    exact ⟨zs, l4, c4, by simp [envOf, N__law_votes, e1, e2, hm, e4], fin zs q1 q2⟩
  · subst hw
    have el : ∀ l c p, ∃ z l' c', (eOp gIx (eOfF (eLstO (eCons (eC (.int (1))) (eCons (eC (.int (2))) (eCons (eOp gPow (eC (.int (10))) (eC (.int (6)))) (eCons (eOp gPow (eC (.int (10))) (eC (.int (9)))) (eNil))))))) (eCall 2 FP__law_roll (aCons (aRefV 0) (aCons (aVal (eC (.int (4)))) (aNil))))) [dc l b c, .val (.int M), .val (.int m), .val (.int 4), .none, .val p] = .ok (.int z) [dc l' b c', .val (.int M), .val (.int m), .val (.int 4), .none, .val p] ∧ (1 ≤ z ∧ z ≤ 1000000000) := fun l c p => by
      obtain ⟨u, l', c', k1, k2, k3⟩ := rolled l b c 4 (by decide) (by decide)
      have hu : u = 0 ∨ u = 1 ∨ u = 2 ∨ u = 3 := by omega
      rcases hu with rfl | rfl | rfl | rfl
      · exact ⟨1, l', c', by simp [k1, fitV], by omega, by omega⟩
      · exact ⟨2, l', c', by simp [k1, fitV], by omega, by omega⟩
      · exact ⟨1000000, l', c', by simp [k1, fitV], by omega, by omega⟩
      · exact ⟨1000000000, l', c', by simp [k1, fitV]; rfl, by omega, by omega⟩
    obtain ⟨zs, l4, c4, e4, q1, q2⟩ := drawn_lc (by omega) (by omega) el l2 c2
    exact ⟨zs, l4, c4, by simp [envOf, N__law_votes, e1, e2, hm, e4], fin zs q1 q2⟩
  · subst hw
    obtain ⟨zs, l3, c3, e3, q1, q2⟩ := drawn_lc (by omega) (by omega) (plus 100 (.val (.int 5)) (by decide) (by decide)) l2 c2
    exact ⟨zs, l3, c3, by simp [envOf, N__law_votes, e1, e2, hm, e3], fin zs q1 q2⟩
@[simp] theorem ns_up_harmonic : (("up" : PySem.Str) = "harmonic") = False := eq_false (by decide +kernel)
@[simp] theorem ns_up_geometric : (("up" : PySem.Str) = "geometric") = False := eq_false (by decide +kernel)
@[simp] theorem ns_up_step : (("up" : PySem.Str) = "step") = False := eq_false (by decide +kernel)
@[simp] theorem ns_harmonic_up : (("harmonic" : PySem.Str) = "up") = False := eq_false (by decide +kernel)
@[simp] theorem ns_harmonic_geometric : (("harmonic" : PySem.Str) = "geometric") = False := eq_false (by decide +kernel)
@[simp] theorem ns_harmonic_step : (("harmonic" : PySem.Str) = "step") = False := eq_false (by decide +kernel)
@[simp] theorem ns_geometric_up : (("geometric" : PySem.Str) = "up") = False := eq_false (by decide +kernel)
@[simp] theorem ns_geometric_harmonic : (("geometric" : PySem.Str) = "harmonic") = False := eq_false (by decide +kernel)
@[simp] theorem ns_geometric_step : (("geometric" : PySem.Str) = "step") = False := eq_false (by decide +kernel)
@[simp] theorem ns_step_up : (("step" : PySem.Str) = "up") = False := eq_false (by decide +kernel)
@[simp] theorem ns_step_harmonic : (("step" : PySem.Str) = "harmonic") = False := eq_false (by decide +kernel)
@[simp] theorem ns_step_geometric : (("step" : PySem.Str) = "geometric") = False := eq_false (by decide +kernel)
/-! ways -/
inductive Way | up | ha | ge | st (t d : Int)
def wyD : Way → D
  | .up => .tup [.str "up"]
  | .ha => .tup [.str "harmonic"]
  | .ge => .tup [.str "geometric"]
  | .st t d => .tup [.str "step", fr t d]
structure RB (t d : Int) : Prop where
  t1 : 1 ≤ t
  t2 : t ≤ d
  d2 : d ≤ 1000
  g : Int.gcd t d = 1
def WOk : Way → Prop
  | .st t d => RB t d
  | _ => True
def nou : Way → Bool
  | .st _ _ => false
  | _ => true
def sqT : Way → Int → Int
  | .up, k => k * k
  | .ha, k => 4 * k * k * (k + 1) * (k + 1)
  | .ge, k => k * (k + 1)
  | .st t d, k => (k * d + t) * (k * d + t)
def sqB : Way → Int → Int
  | .up, _ => 1
  | .ha, k => (2 * k + 1) * (2 * k + 1)
  | .ge, _ => 1
  | .st _ d, _ => d * d
theorem bd_mul {x y X Y : Int} (h0 : 0 ≤ x) (h1 : x ≤ X) (k0 : 0 ≤ y) (k1 : y ≤ Y) : 0 ≤ x * y ∧ x * y ≤ X * Y := ⟨Int.mul_nonneg h0 k0, Int.mul_le_mul h1 k1 k0 (Int.le_trans h0 h1)⟩
theorem sq_bds {w : Way} (h : WOk w) {k : Int} (k0 : 0 ≤ k) (k1 : k ≤ 1000) : 0 ≤ sqT w k ∧ sqT w k ≤ 10000000000000 ∧ 1 ≤ sqB w k ∧ sqB w k ≤ 10000000 := by
  cases w with
  | up =>
    have := bd_mul k0 k1 k0 k1
    simp only [sqT, sqB]; omega
  | ha =>
    have a1 := bd_mul (show 0 ≤ 4 * k by omega) (show 4 * k ≤ 4000 by omega) k0 k1
    have a2 := bd_mul a1.1 a1.2 (show 0 ≤ k + 1 by omega) (show k + 1 ≤ 1001 by omega)
    have a3 := bd_mul a2.1 a2.2 (show 0 ≤ k + 1 by omega) (show k + 1 ≤ 1001 by omega)
    have b := bd_mul (show 0 ≤ 2 * k + 1 by omega) (show 2 * k + 1 ≤ 2001 by omega) (show 0 ≤ 2 * k + 1 by omega) (show 2 * k + 1 ≤ 2001 by omega)
    have b2 : 0 < (2 * k + 1) * (2 * k + 1) := Int.mul_pos (by omega) (by omega)
    simp only [sqT, sqB]; omega
  | ge =>
    have := bd_mul k0 k1 (show 0 ≤ k + 1 by omega) (show k + 1 ≤ 1001 by omega)
    simp only [sqT, sqB]; omega
  | st t d =>
    obtain ⟨t1, t2, d2, _⟩ := h
    have a1 := bd_mul k0 k1 (show 0 ≤ d by omega) d2
    have a2 := bd_mul (show 0 ≤ k * d + t by omega) (show k * d + t ≤ 1001000 by omega) (show 0 ≤ k * d + t by omega) (show k * d + t ≤ 1001000 by omega)
    have b := bd_mul (show 0 ≤ d by omega) d2 (show 0 ≤ d by omega) d2
    have b2 : 0 < d * d := Int.mul_pos (by omega) (by omega)
    simp only [sqT, sqB]; omega
theorem gcd1 {t : Int} : Int.gcd t 1 = 1 := by rw [Int.gcd_one_right]
theorem frac_1 {t : Int} : frac t 1 = fr t 1 := by unfold frac; rw [gcd1]; simp
theorem nought_ok (w : Way) : FP_has_nought_in [.val (wyD w)] = .ok (.val (.bl (nou w))) [.none] := by
  unfold FP_has_nought_in BP_has_nought_in
  cases w <;> simp [envOf, N_has_nought_in, wyD, nou]
theorem big8 {b : Int} (h : b ≤ 1000000000000000000) : b < 2 ^ 4000 := Int.lt_of_le_of_lt h (by decide)
theorem law_square_ok {w : Way} (h : WOk w) {k : Int} (k0 : 0 ≤ k) (k1 : k ≤ 1000) : FP__law_square [.val (wyD w), .val (.int k)] = .ok (.val (frac (sqT w k) (sqB w k))) [.none, .none] := by
  obtain ⟨s1, s2, s3, s4⟩ := sq_bds h k0 k1
  have f := law_fraction_ok (t := sqT w k) (b := sqB w k) (by omega) (big8 (by omega))
  generalize hF : frac (sqT w k) (sqB w k) = F at *
  unfold FP__law_square BP__law_square
  cases w with
  | up =>
    have e : F = fr (k * k) 1 := by rw [← hF]; exact frac_1
    subst e
    simp (disch := omega) [envOf, mulOk_l, mulOk_r, fits_of, dTru, N__law_square, wyD]
  | ha =>
    simp only [sqT, sqB] at f s1 s2 s3 s4
    have a1 := bd_mul (show 0 ≤ 4 * k by omega) (show 4 * k ≤ 4000 by omega) k0 k1
    simp (disch := omega) [envOf, mulOk_l, mulOk_r, fits_of, dTru, N__law_square, wyD, f]
  | ge =>
    have e : F = fr (k * (k + 1)) 1 := by rw [← hF]; exact frac_1
    subst e
    simp (disch := omega) [envOf, mulOk_l, mulOk_r, fits_of, dTru, N__law_square, wyD]
  | st t d =>
    simp only [sqT, sqB] at f s1 s2 s3 s4
    obtain ⟨t1, t2, d2, _⟩ := h
    have a1 := bd_mul k0 k1 (show 0 ≤ d by omega) d2
    simp (disch := omega) [envOf, mulOk_l, mulOk_r, fits_of, dTru, N__law_square, wyD, f]
/-! shares compared -/
def sgn (x y : Int) : Int := (if y < x then 1 else 0) - (if x < y then 1 else 0)
theorem sgn_neg {x y : Int} : sgn x y < 0 ↔ x < y := by unfold sgn; split <;> split <;> omega
theorem sgn_swap {x y : Int} : sgn y x = - sgn x y := by unfold sgn; split <;> split <;> omega
theorem scale_lt {p q x y x' y' : Int} (hp : 0 < p) (hq : 0 < q) (hx : x * p = x' * q) (hy : y * p = y' * q) : x < y ↔ x' < y' := by
  constructor
  · intro h
    have := Int.mul_lt_mul_of_pos_right h hp
    rw [hx, hy] at this
    exact Int.lt_of_mul_lt_mul_right this (Int.le_of_lt hq)
  · intro h
    have := Int.mul_lt_mul_of_pos_right h hq
    rw [← hx, ← hy] at this
    exact Int.lt_of_mul_lt_mul_right this (Int.le_of_lt hp)
theorem scale_sgn {p q x y x' y' : Int} (hp : 0 < p) (hq : 0 < q) (hx : x * p = x' * q) (hy : y * p = y' * q) : sgn x y = sgn x' y' := by
  have a := scale_lt hp hq hx hy
  have b := scale_lt hp hq hy hx
  unfold sgn
  simp only [a, b]
/-! the sign of two shares, squares told by any tops and bottoms -/
def cmpQ (v P Q u P2 Q2 : Int) : Int := if P = 0 then (if P2 = 0 then sgn v u else 1) else if P2 = 0 then -1 else sgn (v * v * Q * P2) (u * u * Q2 * P)
def cmpW (w : Way) (v a u b : Int) : Int := cmpQ v (sqT w a) (sqB w a) u (sqT w b) (sqB w b)
theorem nought_iff {P Q T B : Int} (hQ : 0 < Q) (hB : 0 < B) (e : P * B = T * Q) : P = 0 ↔ T = 0 := by
  constructor
  · intro h
    rw [h, Int.zero_mul] at e
    rcases Int.mul_eq_zero.mp e.symm with h | h <;> omega
  · intro h
    rw [h, Int.zero_mul] at e
    rcases Int.mul_eq_zero.mp e with h | h <;> omega
theorem cmpQ_same {v u P Q T B P2 Q2 T2 B2 : Int} (hQ : 0 < Q) (hB : 0 < B) (e : P * B = T * Q) (hQ2 : 0 < Q2) (hB2 : 0 < B2) (e2 : P2 * B2 = T2 * Q2) : cmpQ v P Q u P2 Q2 = cmpQ v T B u T2 B2 := by
  have n1 := nought_iff hQ hB e
  have n2 := nought_iff hQ2 hB2 e2
  unfold cmpQ
  simp only [n1, n2]
  have s := scale_sgn (p := B * B2) (q := Q * Q2) (x := v * v * Q * P2) (y := u * u * Q2 * P) (x' := v * v * B * T2) (y' := u * u * B2 * T) (Int.mul_pos hB hB2) (Int.mul_pos hQ hQ2) (by grind) (by grind)
  rw [s]
theorem frac_ratio {t b : Int} : (t / (Int.gcd t b : Int)) * b = t * (b / (Int.gcd t b : Int)) := by
  have h1 := frac_top (t := t) (b := b)
  have h2 := frac_bot (t := t) (b := b)
  generalize (Int.gcd t b : Int) = g at *
  generalize t / g = x at *
  generalize b / g = y at *
  grind
theorem top_nn {t b : Int} (hb : 0 < b) (ht : 0 ≤ t) : 0 ≤ t / (Int.gcd t b : Int) := Int.ediv_nonneg ht (Int.le_of_lt (gcd_pos hb))
theorem top_pos {t b : Int} (h : 0 < b) (ht : 1 ≤ t) : 0 < t / (Int.gcd t b : Int) := by
  have h1 := gcd_pos (t := t) h
  have h2 := frac_top (t := t) (b := b)
  rcases Int.lt_or_le 0 (t / (Int.gcd t b : Int)) with h | h
  · exact h
  · have : (Int.gcd t b : Int) * (t / (Int.gcd t b : Int)) ≤ 0 := Int.mul_nonpos_of_nonneg_of_nonpos (by omega) h
    omega
theorem topLe {t b : Int} (ht : 0 ≤ t) : t / (Int.gcd t b : Int) ≤ t := Int.ediv_le_self _ ht
theorem law_cmp_walk {W F G : D} {v a u b P Q P2 Q2 : Int} (f1 : FP__law_square [.val W, .val (.int a)] = .ok (.val (fr P Q)) [.none, .none]) (f2 : FP__law_square [.val W, .val (.int b)] = .ok (.val (fr P2 Q2)) [.none, .none])
    (hv : v.natAbs < 2 ^ 64) (hu : u.natAbs < 2 ^ 64) (hvv : (v * v).natAbs < 2 ^ 64) (huu : (u * u).natAbs < 2 ^ 64) (hP : P.natAbs < 2 ^ 64) (hP2 : P2.natAbs < 2 ^ 64) :
    FP__law_compared [.val W, .val (.int v), .val (.int a), .val (.int u), .val (.int b)] = .ok (.val (.int (cmpQ v P Q u P2 Q2))) [.none, .none, .none, .none, .none] := by
  have m1 : mulOk v v = true := mulOk_l hv
  have m2 : mulOk u u = true := mulOk_l hu
  have m3 : mulOk (v * v) Q = true := mulOk_l hvv
  have m4 : mulOk (u * u) Q2 = true := mulOk_l huu
  have m5 : mulOk (v * v * Q) P2 = true := mulOk_r hP2
  have m6 : mulOk (u * u * Q2) P = true := mulOk_r hP
  unfold FP__law_compared BP__law_compared cmpQ sgn
  by_cases c1 : P = 0 <;> by_cases c2 : P2 = 0 <;> simp [envOf, N__law_compared, f1, f2, c1, c2, m1, m2, m3, m4, m5, m6]
theorem law_compared_ok {w : Way} (h : WOk w) {v a u b : Int} (v0 : 0 ≤ v) (v2 : v ≤ 1000000000) (u0 : 0 ≤ u) (u2 : u ≤ 1000000000) (a0 : 0 ≤ a) (a1 : a ≤ 1000) (b0 : 0 ≤ b) (b1 : b ≤ 1000) :
    FP__law_compared [.val (wyD w), .val (.int v), .val (.int a), .val (.int u), .val (.int b)] = .ok (.val (.int (cmpW w v a u b))) [.none, .none, .none, .none, .none] := by
  have f1 := law_square_ok h a0 a1
  have f2 := law_square_ok h b0 b1
  obtain ⟨s1, s2, s3, s4⟩ := sq_bds h a0 a1
  obtain ⟨r1, r2, r3, r4⟩ := sq_bds h b0 b1
  have t1 := topLe (b := sqB w a) s1
  have t2 := topLe (b := sqB w b) r1
  have t3 := top_nn (b := sqB w a) (by omega) s1
  have t4 := top_nn (b := sqB w b) (by omega) r1
  have vv := bd_mul v0 v2 v0 v2
  have uu := bd_mul u0 u2 u0 u2
  have k := law_cmp_walk (F := .non) (G := .non) (v := v) (u := u) f1 f2 (by omega) (by omega) (by omega) (by omega) (by omega) (by omega)
  rw [k]
  unfold cmpW
  rw [cmpQ_same (bot_pos (t := sqT w a) (b := sqB w a) (by omega)) (by omega) frac_ratio (bot_pos (t := sqT w b) (b := sqB w b) (by omega)) (by omega) frac_ratio]
/-! loops -/
theorem sFor_of {env env1 : PL.Env} {f : M (List D)} {t : Tg} {b : M O} {ds : List D} {r : R O} (h : f env = .ok ds env1) (k : forL t b ds env1 = r) : sFor f t b env = r := by
  unfold sFor
  rw [bnd_ok h]
  exact k
theorem gIx_tv {vs : List Int} {j : Nat} {v : Int} (h : vs[j]? = some v) : gIx (tv vs) (.int (j : Int)) = some (.int v) := atI_nat (xs := vs.map D.int) (by rw [List.getElem?_map, h]; rfl)
/-! numbers from one to another -/
theorem rngL_range : ∀ (k lo : Nat), rngL (lo : Int) k = (List.range' lo k).map fun j : Nat => D.int (j : Int)
  | 0, _ => rfl
  | k + 1, lo => by
    rw [rngL, List.range'_succ, List.map_cons, ← rngL_range k (lo + 1)]
    rfl
theorem rngL_range0 (k : Nat) : rngL 0 k = (List.range k).map fun j : Nat => D.int (j : Int) := by
  rw [List.range_eq_range']; exact rngL_range k 0
theorem rng2_natM {m n : Int} (h0 : 0 ≤ m) (h1 : m ≤ 1000) (h2 : 0 ≤ n) (h3 : n ≤ 1000) : rng2 [.int m, .int n] = some (rngL m (n - m).toNat) := by
  show (if (lim62 m && lim62 n) = true then some (rngL m (n - m).toNat) else none) = _
  rw [if_pos (by rw [lim62_natM h0 h1, lim62_natM h2 h3]; rfl)]
def vAt (vs : List Int) (j : Nat) : Int := vs.getD j 0
theorem vAt_get {vs : List Int} {j : Nat} (h : j < vs.length) : vs[j]? = some (vAt vs j) := by
  unfold vAt
  rw [List.getD_eq_getElem?_getD, List.getElem?_eq_getElem h]; rfl
theorem vAt_mem {vs : List Int} {j : Nat} (h : j < vs.length) : vAt vs j ∈ vs := List.mem_of_getElem? (vAt_get h)
theorem SE.vat {n : Nat} {ss : List Int} (h : SE n ss) {j : Nat} (hj : j < n) : 0 ≤ vAt ss j ∧ vAt ss j ≤ 200 := by
  have m := vAt_mem (vs := ss) (j := j) (by have := h.n; omega)
  exact ⟨h.lo _ m, h.hi _ m⟩
theorem VV.vat {vs : List Int} (h : VV vs) {j : Nat} (hj : j < vs.length) : 1 ≤ vAt vs j ∧ vAt vs j ≤ 1000000000 := ⟨h.lo _ (vAt_mem hj), h.hi _ (vAt_mem hj)⟩
theorem tv_at {vs : List Int} {j : Nat} (hj : j < vs.length) : gIx (tv vs) (.int (j : Int)) = some (.int (vAt vs j)) := gIx_tv (vAt_get hj)
/-! ways and signposts of the program -/
theorem law_step_way_ok (l b c : Int) : ∃ t d l' c', RB t d ∧ FP__law_step_way [dc l b c] = .ok (.val (wyD (.st t d))) [dc l' b c'] := by
  obtain ⟨r, l1, c1, e1, r0, r1⟩ := rolled l b c 7 (by decide) (by decide)
  obtain ⟨t, d, h, k1⟩ : ∃ t d, RB t d ∧ (sSetU 1 (uVal (eOp gIx (eOfF (eLstO (eCons (eTup (eCons (eC (.int (1))) (eCons (eC (.int (2))) (eNil)))) (eCons (eTup (eCons (eC (.int (1))) (eCons (eC (.int (1))) (eNil)))) (eCons (eTup (eCons (eC (.int (1))) (eCons (eC (.int (3))) (eNil)))) (eCons (eTup (eCons (eC (.int (2))) (eCons (eC (.int (5))) (eNil)))) (eCons (eTup (eCons (eC (.int (7))) (eCons (eC (.int (10))) (eNil)))) (eCons (eTup (eCons (eC (.int (1))) (eCons (eC (.int (1000))) (eNil)))) (eCons (eTup (eCons (eC (.int (999))) (eCons (eC (.int (1000))) (eNil)))) (eNil)))))))))) (eCall 2 FP__law_roll (aCons (aRefV 0) (aCons (aVal (eC (.int (7)))) (aNil))))))) [dc l b c, .none, .none] = .ok .next [dc l1 b c1, .val (fr t d), .none] := by
    rcases (show r = 0 ∨ r = 1 ∨ r = 2 ∨ r = 3 ∨ r = 4 ∨ r = 5 ∨ r = 6 by omega) with rfl | rfl | rfl | rfl | rfl | rfl | rfl
    · exact ⟨1, 2, ⟨by decide, by decide, by decide, by decide⟩, by simp [e1, fitV]⟩
    · exact ⟨1, 1, ⟨by decide, by decide, by decide, by decide⟩, by simp [e1, fitV]⟩
    · exact ⟨1, 3, ⟨by decide, by decide, by decide, by decide⟩, by simp [e1, fitV]⟩
    · exact ⟨2, 5, ⟨by decide, by decide, by decide, by decide⟩, by simp [e1, fitV]; rfl⟩
    · exact ⟨7, 10, ⟨by decide, by decide, by decide, by decide⟩, by simp [e1, fitV]; rfl⟩
    · exact ⟨1, 1000, ⟨by decide, by decide, by decide, by decide⟩, by simp [e1, fitV]; rfl⟩
    · exact ⟨999, 1000, ⟨by decide, by decide, by decide, by decide⟩, by simp [e1, fitV]; rfl⟩
  obtain ⟨r2, l2, c2, e2, _, _⟩ := rolled l1 b c1 3 (by decide) (by decide)
  obtain ⟨t', d', l3, c3, x, h', k2⟩ : ∃ t' d' l3 c3 x, RB t' d' ∧ (sIf (eTB (eOp gEq (eCall 2 FP__law_roll (aCons (aRefV 0) (aCons (aVal (eC (.int (3)))) (aNil)))) (eC (.int (0))))) (sSeq (sSetU 2 (uVal (eOp gAdd (eC (.int (1))) (eCall 2 FP__law_roll (aCons (aRefV 0) (aCons (aVal (eC (.int (30)))) (aNil))))))) (sSeq (sSetU 1 (uCallL [false, false] 2 FP__law_fraction (aCons (aVal (eOp gAdd (eC (.int (1))) (eCallL [true, false] 2 FP__law_roll (aCons (aRefV 0) (aCons (aRefV 2) (aNil)))))) (aCons (aRefV 2) (aNil))))) (PL.ret .next))) (PL.ret .next)) [dc l1 b c1, .val (fr t d), .none] = .ok .next [dc l3 b c3, .val (fr t' d'), x] := by
    by_cases hr : r2 = 0
    · obtain ⟨r3, l3, c3, e3, u0, u1⟩ := rolled l2 b c2 30 (by decide) (by decide)
      obtain ⟨B, hB⟩ : ∃ B : Int, 1 + r3 = B := ⟨_, rfl⟩
      obtain ⟨r4, l4, c4, e4, v0, v1⟩ := rolled l3 b c3 B (by omega) (by omega)
      have f := law_fraction_ok (t := 1 + r4) (b := B) (by omega) (big_of (by omega))
      have g1 := gcd_pos (t := 1 + r4) (b := B) (by omega)
      have a1 := top_pos (t := 1 + r4) (b := B) (by omega) (by omega)
      have a2 := bot_le (t := 1 + r4) (b := B) (by omega)
      have a3 : (1 + r4) / (Int.gcd (1 + r4) B : Int) ≤ B / (Int.gcd (1 + r4) B : Int) := Int.ediv_le_ediv g1 (by omega)
      refine ⟨(1 + r4) / (Int.gcd (1 + r4) B : Int), B / (Int.gcd (1 + r4) B : Int), l4, c4, .val (.int B), ⟨by omega, a3, by omega, gcd_low (by omega)⟩, ?_⟩
      have f : FP__law_fraction [.val (.int (1 + r4)), .val (.int B)] = .ok (.val (fr ((1 + r4) / (Int.gcd (1 + r4) B : Int)) (B / (Int.gcd (1 + r4) B : Int)))) [.none, .none] := f
      generalize fr ((1 + r4) / (Int.gcd (1 + r4) B : Int)) (B / (Int.gcd (1 + r4) B : Int)) = F at *
      simp [e2, hr, e3, hB, e4, f]
    · exact ⟨t, d, l2, c2, .none, h, by simp [e2, hr]⟩
  refine ⟨t', d', l3, c3, h', ?_⟩
  have k3 : (sRetU (uVal (eTup (eCons (eC (.str "step")) (eCons (eVar 1) (eNil)))))) [dc l3 b c3, .val (fr t' d'), x] = .ok (.ret (.val (wyD (.st t' d')))) [dc l3 b c3, .val (fr t' d'), x] := by simp [fitV, wyD]
  unfold FP__law_step_way BP__law_step_way
  exact (congrArg (finF [dc l b c]) (seq_nx k1 (seq_nx k2 (seq_rt k3)))).trans rfl
theorem step_in_ok {t d : Int} (h : RB t d) : FP_is_step_in [.val (fr t d)] = .ok (.val (.bl true)) [.none] := by
  obtain ⟨t1, t2, d2, g⟩ := h
  have f := isfrac_ok (t := t) (b := d) (by omega) (big_of (by omega)) g
  have l1 := is_less_ok (a := 0) (b := 1) (c := t) (d := d) (mulOk_l (by decide)) (mulOk_r (by decide))
  have l2 := is_at_most_ok (a := t) (b := d) (c := 1) (d := 1) (mulOk_r (by decide)) (mulOk_l (by decide))
  have e1 : decide (0 * d < t * 1) = true := decide_eq_true (by omega)
  have e2 : decide (t * 1 ≤ 1 * d) = true := decide_eq_true (by omega)
  rw [e1] at l1
  rw [e2] at l2
  unfold FP_is_step_in BP_is_step_in
  simp (disch := omega) [envOf, mulOk_l, mulOk_r, fits_of, dTru, N_is_step_in, f, l1, l2, d2]
theorem in_names {t d : Int} : gIn (.tup [.str "step", fr t d]) (.tup [.tup [.str "up"], .tup [.str "harmonic"], .tup [.str "geometric"]]) = some (.bl false) := by kernel_rfl
theorem way_in_ok {w : Way} (h : WOk w) : FP_is_way_in [.val (wyD w)] = .ok (.val (.bl true)) [.none] := by
  cases w with
  | up => kernel_rfl
  | ha => kernel_rfl
  | ge => kernel_rfl
  | st t d =>
    have s := step_in_ok h
    have n := in_names (t := t) (d := d)
    have ne : gEq (.tup [.str "step", fr t d]) (.tup []) = some (.bl false) := by kernel_rfl
    have p := pair_ok (x := .str "step") (y := fr t d)
    simp only [wyD]
    generalize fr t d = F at *
    unfold FP_is_way_in BP_is_way_in
    simp (disch := omega) [envOf, mulOk_l, mulOk_r, fits_of, dTru, N_is_way_in, dTy, isiB, n, ne, p, s]
theorem req_way_ok {w : Way} (h : WOk w) : FP_require_way [.val (wyD w)] = .ok (.val .non) [.none] := by
  have e := way_in_ok h
  generalize wyD w = W at *
  unfold FP_require_way BP_require_way
  simp (disch := omega) [envOf, mulOk_l, mulOk_r, fits_of, dTru, N_require_way, e]
theorem near_ok {x : Int} (h1 : -1000000000000000000000000000000000000000000000000000000000000 < x) (h2 : x < 1000000000000000000000000000000000000000000000000000000000000) : FP_is_near [.val (.int x)] = .ok (.val (.bl true)) [.none] := by
  unfold FP_is_near BP_is_near
  simp (disch := omega) [envOf, mulOk_l, mulOk_r, fits_of, dTru, N_is_near, whole_ok, h1, h2]
theorem req_number_ok {x a b : Int} (h1 : a ≤ x) (h2 : x ≤ b) (ha : -1000000000000000000 ≤ a) (hb : b ≤ 1000000000000000000) : FP_require_number [.val (.int x), .val (.int a), .val (.int b)] = .ok (.val .non) [.none, .none, .none] := by
  have n := near_ok (x := x) (by omega) (by omega)
  unfold FP_require_number BP_require_number
  have e1 : ¬ x < a := by omega
  have e2 : ¬ b < x := by omega
  simp (disch := omega) [envOf, mulOk_l, mulOk_r, fits_of, dTru, N_require_number, n, e1, e2]
/-! lists of truths and numbers -/
theorem sq_lt' {X Y : Int} (hx : 0 ≤ X) (h : X < Y) : X * X < Y * Y := by
  have a := Int.mul_le_mul_of_nonneg_left (Int.le_of_lt h) hx
  have b := Int.mul_lt_mul_of_pos_right h (show 0 < Y by omega)
  omega
theorem sq_mono {w : Way} (h : WOk w) {k : Int} (k0 : 0 ≤ k) : sqT w k * sqB w (k + 1) < sqT w (k + 1) * sqB w k := by
  cases w with
  | up =>
    have := sq_lt' k0 (show k < k + 1 by omega)
    simp only [sqT, sqB]; omega
  | ha =>
    have n : 0 ≤ 2 * k * (k + 1) * (2 * k + 3) := Int.mul_nonneg (Int.mul_nonneg (by omega) (by omega)) (by omega)
    have p : 0 < (k + 1) * (k + 1) := Int.mul_pos (by omega) (by omega)
    have e : 2 * (k + 1) * (k + 2) * (2 * k + 1) - 2 * k * (k + 1) * (2 * k + 3) = 4 * ((k + 1) * (k + 1)) := by grind
    have := sq_lt' n (show 2 * k * (k + 1) * (2 * k + 3) < 2 * (k + 1) * (k + 2) * (2 * k + 1) by omega)
    simp only [sqT, sqB]
    have e1 : 4 * k * k * (k + 1) * (k + 1) * ((2 * (k + 1) + 1) * (2 * (k + 1) + 1)) = 2 * k * (k + 1) * (2 * k + 3) * (2 * k * (k + 1) * (2 * k + 3)) := by grind
    have e2 : 4 * (k + 1) * (k + 1) * (k + 1 + 1) * (k + 1 + 1) * ((2 * k + 1) * (2 * k + 1)) = 2 * (k + 1) * (k + 2) * (2 * k + 1) * (2 * (k + 1) * (k + 2) * (2 * k + 1)) := by grind
    omega
  | ge =>
    have e : (k + 1) * (k + 1 + 1) - k * (k + 1) = 2 * (k + 1) := by grind
    simp only [sqT, sqB]; omega
  | st t d =>
    obtain ⟨t1, t2, d2, _⟩ := h
    have n : 0 ≤ k * d := Int.mul_nonneg k0 (by omega)
    have e : (k + 1) * d + t = k * d + t + d := by grind
    have q := sq_lt' (X := k * d + t) (Y := (k + 1) * d + t) (by omega) (by omega)
    simp only [sqT, sqB]
    exact Int.mul_lt_mul_of_pos_right q (Int.mul_pos (by omega) (by omega))
/-! a square of a fraction in lowest terms is in lowest terms -/
/-! the five ways -/
/-! gaps less or not -/
theorem top_le {t b : Int} (hb : 0 < b) : (t / (Int.gcd t b : Int)).natAbs ≤ t.natAbs := by
  have h1 := gcd_pos (t := t) hb
  rw [Int.natAbs_ediv_of_dvd (Int.gcd_dvd_left ..)]
  exact Nat.div_le_self _ _
/-! gaps and shares: which moves lessen -/
theorem sq_lt {X Y : Int} (hx : 0 ≤ X) (hy : 0 ≤ Y) : X * X < Y * Y ↔ X < Y := by
  constructor
  · intro h
    rcases Int.lt_or_le X Y with h2 | h2
    · exact h2
    · have := Int.mul_le_mul h2 h2 hy hx
      omega
  · intro h
    have a := Int.mul_le_mul_of_nonneg_left (Int.le_of_lt h) hx
    have b := Int.mul_lt_mul_of_pos_right h (show 0 < Y by omega)
    omega
/-! how much the share of the other party is the greater one -/
/-! comprehensions with a test -/
theorem lcL_filter {α : Type} {env : PL.Env} {vs : List Nat} {t : Tg} {c : M Bool} {e : M D} (p : α → Bool) (mk g : α → D) : ∀ as : List α, (∀ a ∈ as, ∃ e1 e2 e3, asg t (mk a) env = some e1 ∧ c e1 = .ok (p a) e2 ∧ (p a = true → e e2 = .ok (g a) e3) ∧ wipeE (if p a = true then e3 else e2) vs = env) → lcL vs t c e (as.map mk) env = .ok ((as.filter p).map g) env
  | [], _ => rfl
  | a :: as, h => by
    obtain ⟨e1, e2, e3, h1, h2, h3, h4⟩ := h a (List.mem_cons_self ..)
    have ih := lcL_filter p mk g as fun x hx => h x (List.mem_cons_of_mem _ hx)
    rw [← h4] at ih
    cases hp : p a with
    | true =>
      rw [hp, if_pos rfl] at ih h4
      rw [hp] at h2
      have := lcL_step (lcT_some h1 h2 (h3 hp)) ih
      rw [List.map_cons, this, h4, List.filter_cons_of_pos hp]
      rfl
    | false =>
      rw [hp, if_neg (by decide)] at ih h4
      rw [hp] at h2
      have := lcL_step (lcT_none h1 h2) ih
      rw [List.map_cons, this, h4, List.filter_cons_of_neg (by rw [hp]; decide)]
      rfl
theorem eLc_filter {α : Type} {env env1 : PL.Env} {f : M (List D)} {vs : List Nat} {t : Tg} {c : M Bool} {e : M D} (p : α → Bool) (mk g : α → D) (as : List α) (h1 : f env = .ok (as.map mk) env1) (hz : as.length ≤ 16777216)
    (h : ∀ a ∈ as, ∃ e1 e2 e3, asg t (mk a) (wipeE env1 vs) = some e1 ∧ c e1 = .ok (p a) e2 ∧ (p a = true → e e2 = .ok (g a) e3) ∧ wipeE (if p a = true then e3 else e2) vs = wipeE env1 vs) : eLc f vs t c e env = .ok ((as.filter p).map g) env1 := by
  rw [eLc_of h1 (by simpa using hz) (lcL_filter p mk g as h), rest_wipe]
/-! any values within bounds -/
theorem sum_nn : ∀ {vs : List Int}, (∀ v ∈ vs, 0 ≤ v) → 0 ≤ vs.sum
  | [], _ => by simp
  | v :: vs, h => by
    have := sum_nn (vs := vs) fun x hx => h x (List.mem_cons_of_mem _ hx)
    have := h v (List.mem_cons_self ..)
    rw [List.sum_cons]; omega
theorem sum_le {B : Int} : ∀ {vs : List Int}, (∀ v ∈ vs, v ≤ B) → vs.sum ≤ B * vs.length
  | [], _ => by simp
  | v :: vs, h => by
    have h1 := sum_le (vs := vs) fun x hx => h x (List.mem_cons_of_mem _ hx)
    have h2 := h v (List.mem_cons_self ..)
    rw [List.sum_cons, List.length_cons, Int.natCast_succ, Int.mul_add]; omega
theorem VV.pos {vs : List Int} (h : VV vs) : 0 < vs.sum := by
  obtain ⟨n1, n2, lo, hi⟩ := h
  cases vs with
  | nil => simp at n1
  | cons v vs =>
    have h1 := sum_nn (vs := vs) fun x hx => by have := lo x (List.mem_cons_of_mem _ hx); omega
    have h2 := lo v (List.mem_cons_self ..)
    rw [List.sum_cons]; omega
theorem VV.top {vs : List Int} (h : VV vs) : vs.sum ≤ 10000000000 := by
  have := sum_le h.hi
  have := h.n2
  omega
section
variable {vs : List Int} {x : Int} (h : VV vs) (h1 : 0 ≤ x) (h2 : x ≤ 200)
include h h1 h2
end
/-! dealings by rests as the laws list them: plain words -/
def rests (vs : List Int) (h : Int) : List Int := vs.map fun v => v * h % vs.sum
/-! the walk of the list of dealings by rests -/
theorem map_range {α : Type} (f : Int → α) (vs : List Int) : vs.map f = (List.range vs.length).map fun j => f (vAt vs j) := by
  refine List.ext_getElem? fun i => ?_
  rw [List.getElem?_map, List.getElem?_map]
  by_cases h : i < vs.length
  · rw [List.getElem?_range h, vAt_get h]; rfl
  · rw [List.getElem?_eq_none (by omega), List.getElem?_eq_none (by rw [List.length_range]; omega)]; rfl
def natD (l : List Nat) : List D := l.map fun i : Nat => D.int (i : Int)
section
variable {V : D} {h T n J v x : Int} {q r su ti lo i l le od ba fo : SV}
end
section
variable {V : D} {h n J x : Int} {q r su ti lo i l le od ba fo : SV}
/-! one party of one found row -/
end
/-! least and greatest seats by rests -/
/-! spans: the walks -/
theorem fr_eqv {x y z u : Int} (h : PyData.eqv (toPy (fr x y)) (toPy (fr z u)) = true) : x = z ∧ y = u := by
  simp [toPy, toPyL, PyData.eqv, PyData.eqvAll] at h
  exact h
/-! the dealing one by one keeps the rule of dealt seats -/
theorem cmpQ_ge {v P Q u P2 Q2 : Int} : 0 ≤ cmpQ v P Q u P2 Q2 ↔ (P = 0 ∧ P2 = 0 ∧ u ≤ v) ∨ (P = 0 ∧ P2 ≠ 0) ∨ (P ≠ 0 ∧ P2 ≠ 0 ∧ u * u * Q2 * P ≤ v * v * Q * P2) := by
  unfold cmpQ
  have sg : ∀ x y : Int, 0 ≤ sgn x y ↔ y ≤ x := fun x y => by
    have := sgn_neg (x := x) (y := y)
    omega
  by_cases a : P = 0 <;> by_cases b : P2 = 0
  · rw [if_pos a, if_pos b, sg]
    simp [a, b]
  · rw [if_pos a, if_neg b]
    simp [a, b]
  · rw [if_neg a, if_pos b]
    simp [a, b]
  · rw [if_neg a, if_neg b, sg]
    simp [a, b]
theorem cmpQ_swap {v P Q u P2 Q2 : Int} : cmpQ u P2 Q2 v P Q = - cmpQ v P Q u P2 Q2 := by
  unfold cmpQ
  by_cases a : P = 0 <;> by_cases b : P2 = 0
  · simp only [a, b, if_true]
    exact sgn_swap
  · simp only [a, if_true, if_neg b]
  · simp only [b, if_true, if_neg a]
    rfl
  · simp only [if_neg a, if_neg b]
    exact sgn_swap
theorem cmpQ_trans {v P Q u P2 Q2 t P3 Q3 : Int} (p1 : 0 ≤ P) (p2 : 0 ≤ P2) (p3 : 0 ≤ P3) (h1 : 0 ≤ cmpQ v P Q u P2 Q2) (h2 : 0 ≤ cmpQ u P2 Q2 t P3 Q3) : 0 ≤ cmpQ v P Q t P3 Q3 := by
  rw [cmpQ_ge] at h1 h2 ⊢
  rcases h1 with ⟨a, b, c⟩ | ⟨a, b⟩ | ⟨a, b, c⟩
  · rcases h2 with ⟨a', b', c'⟩ | ⟨a', b'⟩ | ⟨a', b', c'⟩
    · exact .inl ⟨a, b', by omega⟩
    · exact .inr (.inl ⟨a, b'⟩)
    · exact absurd b a'
  · rcases h2 with ⟨a', b', c'⟩ | ⟨a', b'⟩ | ⟨a', b', c'⟩
    · exact absurd a' b
    · exact .inr (.inl ⟨a, b'⟩)
    · exact .inr (.inl ⟨a, b'⟩)
  · rcases h2 with ⟨a', b', c'⟩ | ⟨a', b'⟩ | ⟨a', b', c'⟩
    · exact absurd a' b
    · exact absurd a' b
    · refine .inr (.inr ⟨a, b', ?_⟩)
      have m1 := Int.mul_le_mul_of_nonneg_right c p3
      have m2 := Int.mul_le_mul_of_nonneg_right c' p1
      have e1 : u * u * Q2 * P * P3 = u * u * Q2 * P3 * P := by grind
      rw [e1] at m1
      have m3 := Int.le_trans m2 m1
      have e2 : t * t * Q3 * P2 * P = t * t * Q3 * P * P2 := by grind
      have e3 : v * v * Q * P2 * P3 = v * v * Q * P3 * P2 := by grind
      rw [e2, e3] at m3
      exact Int.le_of_mul_le_mul_right m3 (by omega)
theorem cmpW_trans {w : Way} (h : WOk w) {v u t a b c : Int} (a0 : 0 ≤ a) (a1 : a ≤ 1000) (b0 : 0 ≤ b) (b1 : b ≤ 1000) (c0 : 0 ≤ c) (c1 : c ≤ 1000) (h1 : 0 ≤ cmpW w v a u b) (h2 : 0 ≤ cmpW w u b t c) : 0 ≤ cmpW w v a t c :=
  cmpQ_trans (sq_bds h a0 a1).1 (sq_bds h b0 b1).1 (sq_bds h c0 c1).1 h1 h2
theorem cmpW_refl {w : Way} {v a : Int} : 0 ≤ cmpW w v a v a := by
  unfold cmpW
  rw [cmpQ_ge]
  by_cases c : sqT w a = 0
  · exact .inl ⟨c, c, Int.le_refl _⟩
  · exact .inr (.inr ⟨c, c, Int.le_refl _⟩)
/-! seats asked, pairs -/
theorem sum_mem : ∀ (l : List Int), (∀ s ∈ l, 0 ≤ s) → ∀ s ∈ l, s ≤ l.sum
  | [], _, s, hs => by cases hs
  | a :: l, h, s, hs => by
    have a0 := h a (List.mem_cons_self ..)
    have n0 := sum_nn (vs := l) fun x hx => h x (List.mem_cons_of_mem _ hx)
    rw [List.sum_cons]
    rcases List.mem_cons.mp hs with rfl | hs
    · omega
    · have := sum_mem l (fun x hx => h x (List.mem_cons_of_mem _ hx)) s hs
      omega
/-! dealings by rests: the sum -/
/-! quotas as fractions -/
/-! more rewriting rules -/
@[simp] theorem v_tIfM {c f g : M Bool} {env : PL.Env} : tIfM c f g env = (c env).bind fun b => if b then f else g := rfl
@[simp] theorem v_eC0 {env : PL.Env} {ds : List D} : eC0 ds env = .ok (.dct []) env := rfl
/-! an own list lent where the other own lists hold no lists -/
/-! fractions reckoned with -/
theorem frac_cross {x y z w : Int} (hy : 0 < y) (hw : 0 < w) (e : x * w = z * y) : frac x y = frac z w := by
  have a := frac_mul (t := x) hw hy
  have b := frac_mul (t := z) hy hw
  rw [← a, ← b, Int.mul_comm w x, e, Int.mul_comm z y, Int.mul_comm w y]
structure FS (t b : Int) : Prop where
  b0 : 0 < b
  b1 : b < 2 ^ 60
  t1 : t.natAbs < 2 ^ 60
theorem FS.low {t b : Int} (h : FS t b) : ∃ p q : Int, frac t b = fr p q ∧ 0 < q ∧ q < 2 ^ 60 ∧ p.natAbs < 2 ^ 60 ∧ p * b = t * q := by
  have q1 := bot_le (t := t) h.b0
  have q0 := bot_pos (t := t) h.b0
  have p1 := top_le (t := t) h.b0
  have t1 := h.t1
  have b1 := h.b1
  exact ⟨_, _, rfl, q0, by omega, by omega, frac_ratio⟩
theorem q60 {x y : Int} (h1 : 0 < x) (h2 : x < 2 ^ 60) (h3 : 0 < y) (h4 : y < 2 ^ 60) : x * y < 2 ^ 4000 := by
  have := Int.mul_lt_mul_of_pos_right h2 h3
  have := Int.mul_lt_mul_of_pos_left h4 (show (0 : Int) < 2 ^ 60 by decide)
  have : (2 : Int) ^ 60 * 2 ^ 60 < 2 ^ 4000 := by decide
  omega
theorem m60 {x y : Int} (h : x.natAbs < 2 ^ 60) : mulOk x y = true := mulOk_l (by omega)
section
variable {p q p' q' : Int} {R : D}
theorem plus_w (m1 : mulOk p q' = true) (m2 : mulOk p' q = true) (m3 : mulOk q q' = true) (e : FP_fraction [.val (.int (p * q' + p' * q)), .val (.int (q * q'))] = .ok (.val R) [.none, .none]) : FP_plus [.val (fr p q), .val (fr p' q')] = .ok (.val R) [.none, .none] := by
  unfold FP_plus BP_plus
  simp (disch := omega) [envOf, mulOk_l, mulOk_r, fits_of, dTru, N_plus, m1, m2, m3, e]
theorem minus_w (m1 : mulOk p q' = true) (m2 : mulOk p' q = true) (m3 : mulOk q q' = true) (e : FP_fraction [.val (.int (p * q' - p' * q)), .val (.int (q * q'))] = .ok (.val R) [.none, .none]) : FP_minus [.val (fr p q), .val (fr p' q')] = .ok (.val R) [.none, .none] := by
  unfold FP_minus BP_minus
  simp (disch := omega) [envOf, mulOk_l, mulOk_r, fits_of, dTru, N_minus, m1, m2, m3, e]
theorem times_w (m1 : mulOk p p' = true) (m3 : mulOk q q' = true) (e : FP_fraction [.val (.int (p * p')), .val (.int (q * q'))] = .ok (.val R) [.none, .none]) : FP_times [.val (fr p q), .val (fr p' q')] = .ok (.val R) [.none, .none] := by
  unfold FP_times BP_times
  simp (disch := omega) [envOf, mulOk_l, mulOk_r, fits_of, dTru, N_times, m1, m3, e]
theorem quot_w (m1 : mulOk p q' = true) (m3 : mulOk q p' = true) (e : FP_fraction [.val (.int (p * q')), .val (.int (q * p'))] = .ok (.val R) [.none, .none]) : FP_quotient [.val (fr p q), .val (fr p' q')] = .ok (.val R) [.none, .none] := by
  unfold FP_quotient BP_quotient
  simp (disch := omega) [envOf, mulOk_l, mulOk_r, fits_of, dTru, N_quotient, m1, m3, e]
end
section
variable {t b t' b' : Int}
theorem plus_fr (h : FS t b) (k : FS t' b') : FP_plus [.val (frac t b), .val (frac t' b')] = .ok (.val (frac (t * b' + t' * b) (b * b'))) [.none, .none] := by
  obtain ⟨p, q, e, q0, q1, p1, r⟩ := h.low
  obtain ⟨p', q', e', q0', q1', p1', r'⟩ := k.low
  have c : frac (p * q' + p' * q) (q * q') = frac (t * b' + t' * b) (b * b') := frac_cross (Int.mul_pos q0 q0') (Int.mul_pos h.b0 k.b0) (by
    have e1 : (p * q' + p' * q) * (b * b') = p * b * (q' * b') + p' * b' * (q * b) := by grind
    rw [e1, r, r']
    grind)
  rw [e, e', ← c]
  exact plus_w (m60 p1) (m60 p1') (m60 (by omega)) (fraction_ok (Int.mul_pos q0 q0') (q60 q0 q1 q0' q1'))
theorem minus_fr (h : FS t b) (k : FS t' b') : FP_minus [.val (frac t b), .val (frac t' b')] = .ok (.val (frac (t * b' - t' * b) (b * b'))) [.none, .none] := by
  obtain ⟨p, q, e, q0, q1, p1, r⟩ := h.low
  obtain ⟨p', q', e', q0', q1', p1', r'⟩ := k.low
  have c : frac (p * q' - p' * q) (q * q') = frac (t * b' - t' * b) (b * b') := frac_cross (Int.mul_pos q0 q0') (Int.mul_pos h.b0 k.b0) (by
    have e1 : (p * q' - p' * q) * (b * b') = p * b * (q' * b') - p' * b' * (q * b) := by grind
    rw [e1, r, r']
    grind)
  rw [e, e', ← c]
  exact minus_w (m60 p1) (m60 p1') (m60 (by omega)) (fraction_ok (Int.mul_pos q0 q0') (q60 q0 q1 q0' q1'))
theorem times_fr (h : FS t b) (k : FS t' b') : FP_times [.val (frac t b), .val (frac t' b')] = .ok (.val (frac (t * t') (b * b'))) [.none, .none] := by
  obtain ⟨p, q, e, q0, q1, p1, r⟩ := h.low
  obtain ⟨p', q', e', q0', q1', p1', r'⟩ := k.low
  have c : frac (p * p') (q * q') = frac (t * t') (b * b') := frac_cross (Int.mul_pos q0 q0') (Int.mul_pos h.b0 k.b0) (by
    have e1 : (p * p') * (b * b') = p * b * (p' * b') := by grind
    rw [e1, r, r']
    grind)
  rw [e, e', ← c]
  exact times_w (m60 p1) (m60 (by omega)) (fraction_ok (Int.mul_pos q0 q0') (q60 q0 q1 q0' q1'))
theorem quot_fr (h : FS t b) (k : FS t' b') (t0 : 0 < t') : FP_quotient [.val (frac t b), .val (frac t' b')] = .ok (.val (frac (t * b') (b * t'))) [.none, .none] := by
  obtain ⟨p, q, e, q0, q1, p1, r⟩ := h.low
  have p0' := top_pos (t := t') k.b0 t0
  obtain ⟨p', q', e', q0', q1', p1', r'⟩ := k.low
  have pe : p' = t' / (Int.gcd t' b' : Int) := by
    have e2 := e'
    unfold frac at e2
    cases e2
    rfl
  rw [← pe] at p0'
  have c : frac (p * q') (q * p') = frac (t * b') (b * t') := frac_cross (Int.mul_pos q0 p0') (Int.mul_pos h.b0 t0) (by
    have e1 : (p * q') * (b * t') = p * b * (t' * q') := by grind
    rw [e1, r, ← r']
    grind)
  rw [e, e', ← c]
  exact quot_w (m60 p1) (m60 (by omega)) (fraction_ok (Int.mul_pos q0 p0') (q60 q0 q1 p0' (by omega)))
theorem less_fr (h : FS t b) (k : FS t' b') : FP__law_fr_less [.val (frac t b), .val (frac t' b')] = .ok (.val (.bl (decide (t * b' < t' * b)))) [.none, .none] := by
  obtain ⟨p, q, e, q0, q1, p1, r⟩ := h.low
  obtain ⟨p', q', e', q0', q1', p1', r'⟩ := k.low
  have s := scale_lt (x := p * q') (y := p' * q) (x' := t * b') (y' := t' * b) (p := b * b') (q := q * q') (Int.mul_pos h.b0 k.b0) (Int.mul_pos q0 q0') (by
    have e1 : p * q' * (b * b') = p * b * (q' * b') := by grind
    rw [e1, r]
    grind) (by
    have e1 : p' * q * (b * b') = p' * b' * (q * b) := by grind
    rw [e1, r']
    grind)
  rw [e, e', _law_fr_less_ok (m60 p1) (m60 p1')]
  simp only [s]
theorem isless_fr (h : FS t b) (k : FS t' b') : FP_is_less [.val (frac t b), .val (frac t' b')] = .ok (.val (.bl (decide (t * b' < t' * b)))) [.none, .none] := by
  obtain ⟨p, q, e, q0, q1, p1, r⟩ := h.low
  obtain ⟨p', q', e', q0', q1', p1', r'⟩ := k.low
  have s := scale_lt (x := p * q') (y := p' * q) (x' := t * b') (y' := t' * b) (p := b * b') (q := q * q') (Int.mul_pos h.b0 k.b0) (Int.mul_pos q0 q0') (by
    have e1 : p * q' * (b * b') = p * b * (q' * b') := by grind
    rw [e1, r]
    grind) (by
    have e1 : p' * q * (b * b') = p' * b' * (q * b) := by grind
    rw [e1, r']
    grind)
  rw [e, e', is_less_ok (m60 p1) (m60 p1')]
  simp only [s]
theorem atmost_fr (h : FS t b) (k : FS t' b') : FP_is_at_most [.val (frac t b), .val (frac t' b')] = .ok (.val (.bl (decide (t * b' ≤ t' * b)))) [.none, .none] := by
  obtain ⟨p, q, e, q0, q1, p1, r⟩ := h.low
  obtain ⟨p', q', e', q0', q1', p1', r'⟩ := k.low
  have s := scale_lt (x := p' * q) (y := p * q') (x' := t' * b) (y' := t * b') (p := b * b') (q := q * q') (Int.mul_pos h.b0 k.b0) (Int.mul_pos q0 q0') (by
    have e1 : p' * q * (b * b') = p' * b' * (q * b) := by grind
    rw [e1, r']
    grind) (by
    have e1 : p * q' * (b * b') = p * b * (q' * b') := by grind
    rw [e1, r]
    grind)
  have s' : (p * q' ≤ p' * q) ↔ (t * b' ≤ t' * b) := by rw [← Int.not_lt, ← Int.not_lt, s]
  rw [e, e', is_at_most_ok (m60 p1) (m60 p1')]
  simp only [s']
theorem gEq_frac (h : FS t b) (k : FS t' b') : gEq (frac t b) (frac t' b') = some (D.bl (decide (t * b' = t' * b))) := by
  have c : frac t b = frac t' b' ↔ t * b' = t' * b := by
    constructor
    · intro q
      have e1 := frac_ratio (t := t) (b := b)
      have e2 := frac_ratio (t := t') (b := b')
      unfold frac at q
      simp only [D.tup.injEq, List.cons.injEq, D.int.injEq, and_true] at q
      rw [q.1, q.2] at e1
      have q0 := bot_pos (t := t') k.b0
      generalize t' / (Int.gcd t' b' : Int) = x at *
      generalize b' / (Int.gcd t' b' : Int) = y at *
      refine Int.eq_of_mul_eq_mul_right (show y ≠ 0 by omega) ?_
      have a1 : t * b' * y = t * y * b' := by grind
      rw [a1, ← e1]
      have a2 : t' * b * y = t' * y * b := by grind
      rw [a2, ← e2]
      grind
    · exact frac_cross h.b0 k.b0
  have sh : ∀ x y : Int, shp 64 (frac x y) = true := fun _ _ => rfl
  by_cases q : t * b' = t' * b
  · rw [c.mpr q, gEq_same (sh _ _), decide_eq_true q]
  · rw [decide_eq_false q]
    have z : PyData.eqv (toPy (frac t b)) (toPy (frac t' b')) = false := by
      rw [Bool.eq_false_iff]
      intro e
      apply q
      rw [← c]
      obtain ⟨e1, e2⟩ := fr_eqv e
      unfold frac
      rw [e1, e2]
    show (match dEqv (frac t b) (frac t' b') with
      | some c => some (D.bl c)
      | none => none) = _
    have d : dEqv (frac t b) (frac t' b') = some false := by
      show (if shp 64 (frac t b) && shp 64 (frac t' b') then some (PyData.eqv (toPy (frac t b)) (toPy (frac t' b'))) else none) = _
      rw [sh, sh, z]
      rfl
    rw [d]
end
/-! the parties whose next share is greatest -/
theorem rng_from1 {n : Nat} (h : n ≤ 1000) : rng2 [.int 1, .int (n : Int)] = some (natD (List.range' 1 (n - 1))) := by
  rw [rng2_natM (by omega) (by omega) (by omega) (by omega)]
  have := rngL_range (((n : Int) - 1).toNat) 1
  rw [show ((1 : Nat) : Int) = 1 from rfl] at this
  rw [this, show ((n : Int) - 1).toNat = n - 1 by omega]
  rfl
/-! a call with one own list lent -/
theorem natD_shp (l : List Nat) : shp 64 (.lst (natD l)) = true := by
  show (natD l).all (shp 63) = true
  rw [List.all_eq_true]
  intro d hd
  obtain ⟨i, _, rfl⟩ := List.mem_map.mp hd
  rfl
theorem lst_neE {L : List D} (s : shp 64 (.lst L) = true) : gNe (.lst L) (.lst []) = some (.bl (!L.isEmpty)) := by
  have h2 : shp 64 (.lst []) = true := rfl
  unfold gNe dEqv
  simp only [s, h2, Bool.and_self, if_true]
  cases L <;> rfl
/-! what the least last shares are -/
/-! shares in sequence, spans of one party by shares -/
abbrev cc (w : Way) (vs : List Int) (i : Nat) (a : Int) (j : Nat) (b : Int) : Int := cmpW w (vAt vs i) a (vAt vs j) b
theorem cc_swap {w : Way} {vs : List Int} {i j : Nat} {a b : Int} : cc w vs j b i a = - cc w vs i a j b := cmpQ_swap
theorem cmpW_lt1 {w : Way} (h : WOk w) {v a : Int} (v0 : 0 < v) (a0 : 0 ≤ a) (a1 : a + 1 ≤ 1000) : 0 < cmpW w v a v (a + 1) := by
  have m := sq_mono h a0
  have b1 := sq_bds h a0 (show a ≤ 1000 by omega)
  have b2 := sq_bds h (show 0 ≤ a + 1 by omega) a1
  rcases Int.lt_or_le 0 (cmpW w v a v (a + 1)) with q | q
  · exact q
  · exfalso
    have sw : cmpW w v (a + 1) v a = - cmpW w v a v (a + 1) := cmpQ_swap
    have z : 0 ≤ cmpW w v (a + 1) v a := by omega
    unfold cmpW at z
    rw [cmpQ_ge] at z
    have vv : 0 < v * v := Int.mul_pos v0 v0
    have m2 := Int.mul_lt_mul_of_pos_left m vv
    have e1 : v * v * (sqT w a * sqB w (a + 1)) = v * v * sqB w (a + 1) * sqT w a := by grind
    have e2 : v * v * (sqT w (a + 1) * sqB w a) = v * v * sqB w a * sqT w (a + 1) := by grind
    have pos : sqT w (a + 1) ≠ 0 := by
      intro e
      rw [e, Int.zero_mul] at m
      have := Int.mul_nonneg b1.1 (show 0 ≤ sqB w (a + 1) by omega)
      omega
    rcases z with ⟨z, _⟩ | ⟨z, _⟩ | ⟨_, _, z⟩
    · exact pos z
    · exact pos z
    · omega
theorem cmpW_le {w : Way} (h : WOk w) {v a : Int} (v0 : 0 < v) (a0 : 0 ≤ a) : ∀ m : Nat, a + m ≤ 1000 → 0 ≤ cmpW w v a v (a + m)
  | 0, _ => by rw [show a + ((0 : Nat) : Int) = a by omega]; exact cmpW_refl
  | m + 1, hm => by
    have ih := cmpW_le h v0 a0 m (by omega)
    have st := cmpW_lt1 h (v := v) (a := a + m) v0 (by omega) (by omega)
    rw [show a + (m : Int) + 1 = a + ((m + 1 : Nat) : Int) by omega] at st
    exact cmpW_trans h a0 (by omega) (show 0 ≤ a + (m : Int) by omega) (by omega) (by omega) (by omega) ih (by omega)
theorem cmpW_le' {w : Way} (h : WOk w) {v a b : Int} (v0 : 0 < v) (a0 : 0 ≤ a) (ab : a ≤ b) (b1 : b ≤ 1000) : 0 ≤ cmpW w v a v b := by
  have := cmpW_le h v0 a0 (b - a).toNat (by omega)
  rw [show a + ((b - a).toNat : Int) = b by omega] at this
  exact this
def othS (f : Nat → Int) (n : Nat) : Int := ((List.range' 1 (n - 1)).map f).sum
theorem sum_mono {f g : Nat → Int} : ∀ ks : List Nat, (∀ k ∈ ks, f k ≤ g k) → (ks.map f).sum ≤ (ks.map g).sum
  | [], _ => by simp
  | k :: ks, h => by
    have := sum_mono ks fun x hx => h x (List.mem_cons_of_mem _ hx)
    have := h k (List.mem_cons_self ..)
    rw [List.map_cons, List.map_cons, List.sum_cons, List.sum_cons]
    omega
theorem sum_parts {ss : List Int} {n : Nat} (hn : ss.length = n) (n1 : 1 ≤ n) : ss.sum = vAt ss 0 + othS (vAt ss) n := by
  have e := map_range id ss
  rw [List.map_id, hn] at e
  have e2 := congrArg List.sum e
  unfold othS
  obtain ⟨m, rfl⟩ : ∃ m, n = m + 1 := ⟨n - 1, by omega⟩
  rw [e2, List.range_eq_range', List.range'_succ, List.map_cons, List.sum_cons]
  rfl
def cnt (p : Nat → Bool) (N : Nat) : Int := ((List.range N).countP p : Nat)
theorem cnt_ge {p : Nat → Bool} {N m : Nat} (hm : m ≤ N) (h : ∀ k, k < m → p k = true) : (m : Int) ≤ cnt p N := by
  unfold cnt
  have s : (List.range m).Sublist (List.range N) := List.range_sublist.mpr hm
  have a := List.Sublist.countP_le (p := p) s
  have b : (List.range m).countP p = m := by
    have : (List.range m).countP p = (List.range m).length := List.countP_eq_length.mpr fun k hk => h k (List.mem_range.mp hk)
    rw [this, List.length_range]
  omega
theorem cnt_le {p : Nat → Bool} {N m : Nat} (h : ∀ k, m ≤ k → k < N → p k = false) : cnt p N ≤ m := by
  unfold cnt
  have a : (List.range N).countP p ≤ (List.range N).countP fun k => decide (k < m) := List.countP_mono_left fun k hk pk => by
    rw [decide_eq_true_eq]
    rcases Nat.lt_or_ge k m with q | q
    · exact q
    · rw [h k q (List.mem_range.mp hk)] at pk; cases pk
  have b : (List.range N).countP (fun k => decide (k < m)) ≤ m := by
    have : ∀ N : Nat, (List.range N).countP (fun k => decide (k < m)) = min N m := fun N => by
      induction N with
      | zero => simp
      | succ N ih =>
        rw [List.range_succ, List.countP_append, ih]
        by_cases q : N < m
        · simp [q]; omega
        · simp [q]; omega
    rw [this]
    omega
  omega
section
variable {w : Way} {vs ss : List Int}
end
def nB (w : Way) (vs : List Int) (a least : Int) (j : Nat) : Int := cnt (fun k => decide (least ≤ cc w vs j (k : Int) 0 (a - 1))) 300
def beyond (w : Way) (vs : List Int) (a least : Int) : Int := othS (nB w vs a least) vs.length
section
variable {w : Way} {vs ss : List Int} {S : D} {a : Int}
theorem oth_mem {k n : Nat} (h : k ∈ List.range' 1 (n - 1)) : 1 ≤ k ∧ k < n := by
  have := List.mem_range'_1.mp h
  omega
theorem nB_le {least : Int} {j : Nat} {m : Int} (m0 : 0 ≤ m) (h : ∀ k : Nat, m ≤ k → k < 300 → cc w vs j (k : Int) 0 (a - 1) < least) : nB w vs a least j ≤ m := by
  have := cnt_le (p := fun k => decide (least ≤ cc w vs j (k : Int) 0 (a - 1))) (N := 300) (m := m.toNat) fun k h1 h2 => decide_eq_false (by have := h k (by omega) h2; omega)
  unfold nB
  omega
theorem nB_ge {least : Int} {j : Nat} {m : Int} (m0 : 0 ≤ m) (m1 : m ≤ 300) (h : ∀ k : Nat, (k : Int) < m → least ≤ cc w vs j (k : Int) 0 (a - 1)) : m ≤ nB w vs a least j := by
  have := cnt_ge (p := fun k => decide (least ≤ cc w vs j (k : Int) 0 (a - 1))) (N := 300) (m := m.toNat) (by omega) fun k h1 => decide_eq_true (h k (by omega))
  unfold nB
  omega
end
/-! least and sure parts -/
structure NB (n h a : Int) : Prop where
  n1 : 2 ≤ n
  n2 : n ≤ 10
  h2 : h ≤ 200
  a1 : 1 ≤ a
  ah : a ≤ h
theorem RB.fr {t d : Int} (h : RB t d) : frac t d = LW.fr t d := by
  unfold frac
  rw [h.g]
  simp
def pT (t d a : Int) : Int := (a - 1) * d + t
def pB (t d n h : Int) : Int := (h - 1) * d + n * t
theorem pT_bd {t d n h a : Int} (r : RB t d) (k : NB n h a) : 1 ≤ pT t d a ∧ pT t d a ≤ 300000 := by
  have r1 := r.t1; have r2 := r.t2; have r3 := r.d2; have k3 := k.h2; have k4 := k.a1; have k5 := k.ah
  have p := bd_mul (show 0 ≤ a - 1 by omega) (show a - 1 ≤ 200 by omega) (show 0 ≤ d by omega) r3
  unfold pT
  omega
theorem pB_bd {t d n h a : Int} (r : RB t d) (k : NB n h a) : 1 ≤ pB t d n h ∧ pB t d n h ≤ 300000 := by
  have r1 := r.t1; have r2 := r.t2; have r3 := r.d2; have k1 := k.n1; have k2 := k.n2; have k3 := k.h2; have k4 := k.a1; have k5 := k.ah
  have p := bd_mul (show 0 ≤ h - 1 by omega) (show h - 1 ≤ 200 by omega) (show 0 ≤ d by omega) r3
  have q := bd_mul (show 0 ≤ n by omega) k2 (show 0 ≤ t by omega) (show t ≤ 1000 by omega)
  have q2 := Int.mul_le_mul k1 r1 (by decide) (by omega)
  unfold pB
  omega
theorem poss_w {R A B C X : D} {n h a : Int} (e1 : FP_plus [.val (fr (a - 1) 1), .val R] = .ok (.val A) [.none, .none]) (e2 : FP_times [.val (fr n 1), .val R] = .ok (.val B) [.none, .none]) (e3 : FP_plus [.val (fr (h - 1) 1), .val B] = .ok (.val C) [.none, .none]) (e4 : FP_quotient [.val A, .val C] = .ok (.val X) [.none, .none]) :
    FP_possible_in [.val R, .val (.int n), .val (.int h), .val (.int a)] = .ok (.val X) [.none, .none, .none, .none] := by
  unfold FP_possible_in BP_possible_in
  simp (disch := omega) [envOf, mulOk_l, mulOk_r, fits_of, dTru, N_possible_in, e1, e2, e3, e4]
theorem FS_i {x : Int} (h1 : -1000000 ≤ x) (h2 : x ≤ 1000000) : FS x 1 := ⟨by decide, by decide, by omega⟩
theorem poss_ok {t d n h a : Int} (r : RB t d) (k : NB n h a) : FP_possible_in [.val (fr t d), .val (.int n), .val (.int h), .val (.int a)] = .ok (.val (frac (pT t d a) (pB t d n h))) [.none, .none, .none, .none] := by
  have r1 := r.t1; have r2 := r.t2; have r3 := r.d2; have k1 := k.n1; have k2 := k.n2; have k3 := k.h2; have k4 := k.a1; have k5 := k.ah
  have b1 := pT_bd r k
  have b2 := pB_bd r k
  have q := bd_mul (show 0 ≤ n by omega) k2 (show 0 ≤ t by omega) (show t ≤ 1000 by omega)
  have fr0 : FS t d := ⟨by omega, by omega, by omega⟩
  have e1 := plus_fr (FS_i (x := a - 1) (by omega) (by omega)) fr0
  have e2 := times_fr (FS_i (x := n) (by omega) (by omega)) fr0
  simp only [Int.mul_one, Int.one_mul] at e1 e2
  have e3 := plus_fr (FS_i (x := h - 1) (by omega) (by omega)) (show FS (n * t) d from ⟨by omega, by omega, by omega⟩)
  simp only [Int.mul_one, Int.one_mul] at e3
  have e4 := quot_fr (show FS (pT t d a) d from ⟨by omega, by omega, by omega⟩) (show FS (pB t d n h) d from ⟨by omega, by omega, by omega⟩) (by omega)
  have c : frac (pT t d a * d) (d * pB t d n h) = frac (pT t d a) (pB t d n h) := by
    rw [Int.mul_comm]
    exact frac_mul (by omega) (by omega)
  rw [c] at e4
  rw [frac_1, r.fr] at e1 e2
  rw [frac_1] at e3
  exact poss_w e1 e2 e3 e4
theorem law_poss_ok {t d n h a : Int} (r : RB t d) (k : NB n h a) : FP__law_sh_possible [.val (fr t d), .val (.int n), .val (.int h), .val (.int a)] = .ok (.val (frac (pT t d a) (pB t d n h))) [.none, .none, .none, .none] := by
  have r1 := r.t1; have r2 := r.t2; have r3 := r.d2; have k1 := k.n1; have k2 := k.n2; have k3 := k.h2; have k4 := k.a1; have k5 := k.ah
  have b1 := pT_bd r k
  have b2 := pB_bd r k
  have f := law_fraction_ok (t := pT t d a) (b := pB t d n h) (by omega) (big_of (by omega))
  have m1 : mulOk (a - 1) d = true := mulOk_l (by omega)
  have m2 : mulOk (h - 1) d = true := mulOk_l (by omega)
  have m3 : mulOk n t = true := mulOk_l (by omega)
  unfold pT pB at f ⊢
  unfold FP__law_sh_possible BP__law_sh_possible
  simp (disch := omega) [envOf, mulOk_l, mulOk_r, fits_of, dTru, N__law_sh_possible, m1, m2, m3, f]
def wsO (n h a : Int) : Int := if h - a + 1 < n - 1 then h - a + 1 else n - 1
def sB (t d n h a : Int) : Int := h * d + t - wsO n h a * (d - t)
theorem wsO_bd {n h a : Int} (k : NB n h a) : 1 ≤ wsO n h a ∧ wsO n h a ≤ 9 ∧ wsO n h a ≤ h := by
  have k1 := k.n1; have k2 := k.n2; have k3 := k.h2; have k4 := k.a1; have k5 := k.ah
  unfold wsO
  split <;> omega
theorem sB_bd {t d n h a : Int} (r : RB t d) (k : NB n h a) : 1 ≤ sB t d n h a ∧ sB t d n h a ≤ 300000 := by
  have r1 := r.t1; have r2 := r.t2; have r3 := r.d2; have k1 := k.n1; have k2 := k.n2; have k3 := k.h2; have k4 := k.a1; have k5 := k.ah
  obtain ⟨w1, w2, w3⟩ := wsO_bd k
  have p := bd_mul (show 0 ≤ h by omega) k3 (show 0 ≤ d by omega) r3
  have q := Int.mul_le_mul_of_nonneg_right w3 (show 0 ≤ d - t by omega)
  have q0 := Int.mul_nonneg (show 0 ≤ wsO n h a by omega) (show 0 ≤ d - t by omega)
  have e : h * (d - t) = h * d - h * t := Int.mul_sub ..
  have q1 := Int.mul_nonneg (show 0 ≤ h by omega) (show 0 ≤ t by omega)
  unfold sB
  omega
theorem ws_ok {n h a : Int} : FP_with_seats [.val (.int n), .val (.int h), .val (.int a)] = .ok (.val (.int (wsO n h a))) [.none, .none, .none] := by
  have g : ∀ x y : Int, gMin [.int x, .int y] = some (.int (if y < x then y else x)) := fun _ _ => rfl
  unfold FP_with_seats BP_with_seats wsO
  simp (disch := omega) [envOf, mulOk_l, mulOk_r, fits_of, dTru, N_with_seats, g]
theorem sure_w {R A B C E X Y : D} {n h a m : Int} (e1 : FP_plus [.val (fr (a - 1) 1), .val R] = .ok (.val A) [.none, .none]) (e0 : FP_with_seats [.val (.int n), .val (.int h), .val (.int a)] = .ok (.val (.int m)) [.none, .none, .none]) (e2 : FP_plus [.val (fr h 1), .val R] = .ok (.val B) [.none, .none]) (e3 : FP_minus [.val (fr 1 1), .val R] = .ok (.val C) [.none, .none]) (e4 : FP_times [.val (fr m 1), .val C] = .ok (.val E) [.none, .none]) (e5 : FP_minus [.val B, .val E] = .ok (.val Y) [.none, .none]) (e6 : FP_quotient [.val A, .val Y] = .ok (.val X) [.none, .none]) :
    FP_sure_in [.val R, .val (.int n), .val (.int h), .val (.int a)] = .ok (.val X) [.none, .none, .none, .none] := by
  unfold FP_sure_in BP_sure_in
  simp (disch := omega) [envOf, mulOk_l, mulOk_r, fits_of, dTru, N_sure_in, e1, e0, e2, e3, e4, e5, e6]
theorem sure_ok {t d n h a : Int} (r : RB t d) (k : NB n h a) : FP_sure_in [.val (fr t d), .val (.int n), .val (.int h), .val (.int a)] = .ok (.val (frac (pT t d a) (sB t d n h a))) [.none, .none, .none, .none] := by
  have r1 := r.t1; have r2 := r.t2; have r3 := r.d2; have k1 := k.n1; have k2 := k.n2; have k3 := k.h2; have k4 := k.a1; have k5 := k.ah
  obtain ⟨w1, w2, w3⟩ := wsO_bd k
  have b1 := pT_bd r k
  have b2 := sB_bd r k
  have q := bd_mul (show 0 ≤ wsO n h a by omega) w2 (show 0 ≤ d - t by omega) (show d - t ≤ 1000 by omega)
  have p := bd_mul (show 0 ≤ h by omega) k3 (show 0 ≤ d by omega) r3
  have fr0 : FS t d := ⟨by omega, by omega, by omega⟩
  have e1 := plus_fr (FS_i (x := a - 1) (by omega) (by omega)) fr0
  have e2 := plus_fr (FS_i (x := h) (by omega) (by omega)) fr0
  have e3 := minus_fr (FS_i (x := 1) (by omega) (by omega)) fr0
  simp only [Int.mul_one, Int.one_mul] at e1 e2 e3
  have e4 := times_fr (FS_i (x := wsO n h a) (by omega) (by omega)) (show FS (d - t) d from ⟨by omega, by omega, by omega⟩)
  simp only [Int.one_mul] at e4
  have e5 := minus_fr (show FS (h * d + t) d from ⟨by omega, by omega, by omega⟩) (show FS (wsO n h a * (d - t)) d from ⟨by omega, by omega, by omega⟩)
  have c5 : frac ((h * d + t) * d - wsO n h a * (d - t) * d) (d * d) = frac (sB t d n h a) d := by
    have : (h * d + t) * d - wsO n h a * (d - t) * d = d * sB t d n h a := by unfold sB; grind
    rw [this]
    exact frac_mul (by omega) (by omega)
  rw [c5] at e5
  have e6 := quot_fr (show FS (pT t d a) d from ⟨by omega, by omega, by omega⟩) (show FS (sB t d n h a) d from ⟨by omega, by omega, by omega⟩) (by omega)
  have c : frac (pT t d a * d) (d * sB t d n h a) = frac (pT t d a) (sB t d n h a) := by
    rw [Int.mul_comm]
    exact frac_mul (by omega) (by omega)
  rw [c] at e6
  rw [frac_1, r.fr] at e1 e2 e3
  rw [frac_1] at e4
  exact sure_w e1 ws_ok e2 e3 e4 e5 e6
theorem law_bound_ok {t d n h a : Int} (r : RB t d) (k : NB n h a) : FP__law_sh_bound [.val (fr t d), .val (.int n), .val (.int h), .val (.int a)] = .ok (.val (frac (pT t d a) (sB t d n h a))) [.none, .none, .none, .none] := by
  have r1 := r.t1; have r2 := r.t2; have r3 := r.d2; have k1 := k.n1; have k2 := k.n2; have k3 := k.h2; have k4 := k.a1; have k5 := k.ah
  obtain ⟨w1, w2, w3⟩ := wsO_bd k
  have b1 := pT_bd r k
  have b2 := sB_bd r k
  have f := law_fraction_ok (t := pT t d a) (b := sB t d n h a) (by omega) (big_of (by omega))
  have m1 : mulOk (a - 1) d = true := mulOk_l (by omega)
  have m2 : mulOk h d = true := mulOk_l (by omega)
  have m3 : mulOk (wsO n h a) (d - t) = true := mulOk_l (by omega)
  have g : gMin [.int (n - 1), .int (h - a + 1)] = some (.int (wsO n h a)) := rfl
  unfold pT sB at f ⊢
  generalize wsO n h a = m at *
  unfold FP__law_sh_bound BP__law_sh_bound
  simp (disch := omega) [envOf, mulOk_l, mulOk_r, fits_of, dTru, N__law_sh_bound, m1, m2, m3, g, f]
/-! what is refused: nothing here -/
theorem rstep_ok {t d : Int} (r : RB t d) : FP_require_step_way [.val (wyD (.st t d))] = .ok (.val .non) [.none] := by
  have e1 := req_way_ok (w := .st t d) r
  have e2 := nought_ok (.st t d)
  have z : nou (.st t d) = false := rfl
  rw [z] at e2
  generalize wyD (.st t d) = W at *
  unfold FP_require_step_way BP_require_step_way
  simp (disch := omega) [envOf, mulOk_l, mulOk_r, fits_of, dTru, N_require_step_way, e1, e2]
abbrev ES8 (W V : D) (a least : Int) (s4 s5 s6 : SV) : PL.Env := [.val W, .val V, .val (.int a), .val (.int least), s4, s5, s6]
theorem by_c {W V : D} {a least v k v0 z : Int} {s4 : SV} (g : gIx V (.int 0) = some (.int v0)) (c : FP__law_compared [.val W, .val (.int v), .val (.int k), .val (.int v0), .val (.int (a - 1))] = .ok (.val (.int z)) [.none, .none, .none, .none, .none]) :
    (eTB (eOp gGe (eCallL [false, false, false, false, false] 5 FP__law_compared (aCons (aRefV 0) (aCons (aRefV 5) (aCons (aRefV 6) (aCons (aVal (eIxB 1 (eC (.int (0))))) (aCons (aVal (eOp gSub (eVar 2) (eC (.int (1))))) (aNil))))))) (eVar 3))) (ES8 W V a least s4 (.val (.int v)) (.val (.int k))) = .ok (decide (least ≤ z)) (ES8 W V a least s4 (.val (.int v)) (.val (.int k))) := by
  simp (disch := omega) [envOf, mulOk_l, mulOk_r, fits_of, dTru, g, c]
theorem by_src {W V : D} {a least : Int} {s4 s5 s6 : SV} : (iRng rng1 (eCons (eC (.int (300))) (eNil))) (ES8 W V a least s4 s5 s6) = .ok (natD (List.range 300)) (ES8 W V a least s4 s5 s6) := by
  have rg : rng1 [.int 300] = some (natD (List.range 300)) := by
    rw [rng1_natM (by decide) (by decide)]
    exact congrArg some (rngL_range0 300)
  generalize natD (List.range 300) = L at *
  simp (disch := omega) [envOf, mulOk_l, mulOk_r, fits_of, dTru, rg]
theorem by_body {w : Way} (hw : WOk w) {vs : List Int} (hv : VV vs) {a least f : Int} (a1 : 1 ≤ a) (a2 : a ≤ 500) {j : Nat} (hj : j < vs.length) {s6 : SV} (h6 : s6 = .none) :
    (sSeq (sSetU 4 (uVal (eOp gAdd (eVar 4) (eFn gLen (eCons (eOfF (eLc (iRng rng1 (eCons (eC (.int (300))) (eNil))) [6] (.nm 6) (eTB (eOp gGe (eCallL [false, false, false, false, false] 5 FP__law_compared (aCons (aRefV 0) (aCons (aRefV 5) (aCons (aRefV 6) (aCons (aVal (eIxB 1 (eC (.int (0))))) (aCons (aVal (eOp gSub (eVar 2) (eC (.int (1))))) (aNil))))))) (eVar 3))) (eVar 6))) (eNil)))))) (PL.ret .next)) (ES8 (wyD w) (tv vs) a least (.val (.int f)) (.val (.int (vAt vs j))) s6) = .ok .next (ES8 (wyD w) (tv vs) a least (.val (.int (f + nB w vs a least j))) (.val (.int (vAt vs j))) s6) := by
  subst h6
  have n1 := hv.n1
  have v0 := hv.vat (j := 0) (by omega)
  have vj := hv.vat hj
  have lc : (eLc (iRng rng1 (eCons (eC (.int (300))) (eNil))) [6] (.nm 6) (eTB (eOp gGe (eCallL [false, false, false, false, false] 5 FP__law_compared (aCons (aRefV 0) (aCons (aRefV 5) (aCons (aRefV 6) (aCons (aVal (eIxB 1 (eC (.int (0))))) (aCons (aVal (eOp gSub (eVar 2) (eC (.int (1))))) (aNil))))))) (eVar 3))) (eVar 6)) (ES8 (wyD w) (tv vs) a least (.val (.int f)) (.val (.int (vAt vs j))) .none) = .ok (((List.range 300).filter fun k : Nat => decide (least ≤ cc w vs j (k : Int) 0 (a - 1))).map fun k : Nat => D.int (k : Int)) (ES8 (wyD w) (tv vs) a least (.val (.int f)) (.val (.int (vAt vs j))) .none) :=
    eLc_filter (fun k : Nat => decide (least ≤ cc w vs j (k : Int) 0 (a - 1))) (fun k : Nat => D.int (k : Int)) (fun k : Nat => D.int (k : Int)) (List.range 300) by_src (by rw [List.length_range]; decide) fun k hk => ⟨ES8 (wyD w) (tv vs) a least (.val (.int f)) (.val (.int (vAt vs j))) (.val (.int (k : Int))), _, ES8 (wyD w) (tv vs) a least (.val (.int f)) (.val (.int (vAt vs j))) (.val (.int (k : Int))), rfl, by_c (tv_at (vs := vs) (j := 0) (by omega)) (law_compared_ok hw (by omega) (by omega) (by omega) (by omega) (by omega) (by have := List.mem_range.mp hk; omega) (by omega) (by omega)), fun _ => rfl, by rw [ite_self]; rfl⟩
  have hl : gLen [.lst (((List.range 300).filter fun k : Nat => decide (least ≤ cc w vs j (k : Int) 0 (a - 1))).map fun k : Nat => D.int (k : Int))] = some (.int (nB w vs a least j)) := by
    show some (D.int ((((List.range 300).filter _).map _).length : Nat)) = _
    rw [List.length_map, ← List.countP_eq_length_filter]
    rfl
  generalize (((List.range 300).filter fun k : Nat => decide (least ≤ cc w vs j (k : Int) 0 (a - 1))).map fun k : Nat => D.int (k : Int)) = A at *
  generalize nB w vs a least j = z at *
  generalize (eLc (iRng rng1 (eCons (eC (.int (300))) (eNil))) [6] (.nm 6) (eTB (eOp gGe (eCallL [false, false, false, false, false] 5 FP__law_compared (aCons (aRefV 0) (aCons (aRefV 5) (aCons (aRefV 6) (aCons (aVal (eIxB 1 (eC (.int (0))))) (aCons (aVal (eOp gSub (eVar 2) (eC (.int (1))))) (aNil))))))) (eVar 3))) (eVar 6)) = MM at *
  simp (disch := omega) [envOf, mulOk_l, mulOk_r, fits_of, dTru, lc, hl]
theorem by_loop {w : Way} (hw : WOk w) {vs : List Int} (hv : VV vs) {a least : Int} (a1 : 1 ≤ a) (a2 : a ≤ 500) : ∀ (ks : List Nat) (f : Int) (s5 : SV), (∀ k ∈ ks, k < vs.length) →
    ∃ t5, forL (.nm 5) (sSeq (sSetU 4 (uVal (eOp gAdd (eVar 4) (eFn gLen (eCons (eOfF (eLc (iRng rng1 (eCons (eC (.int (300))) (eNil))) [6] (.nm 6) (eTB (eOp gGe (eCallL [false, false, false, false, false] 5 FP__law_compared (aCons (aRefV 0) (aCons (aRefV 5) (aCons (aRefV 6) (aCons (aVal (eIxB 1 (eC (.int (0))))) (aCons (aVal (eOp gSub (eVar 2) (eC (.int (1))))) (aNil))))))) (eVar 3))) (eVar 6))) (eNil)))))) (PL.ret .next)) (ks.map fun k => D.int (vAt vs k)) (ES8 (wyD w) (tv vs) a least (.val (.int f)) s5 .none) = .ok .next (ES8 (wyD w) (tv vs) a least (.val (.int (f + (ks.map (nB w vs a least)).sum))) t5 .none)
  | [], f, s5, _ => ⟨s5, by simp [forL]⟩
  | k :: ks, f, s5, h => by
    have y := by_body hw hv (least := least) (f := f) a1 a2 (h k (List.mem_cons_self ..)) rfl
    obtain ⟨t5, g⟩ := by_loop hw hv (least := least) a1 a2 ks (f + nB w vs a least k) (.val (.int (vAt vs k))) fun x hx => h x (List.mem_cons_of_mem _ hx)
    refine ⟨t5, ?_⟩
    rw [List.map_cons, List.map_cons, List.sum_cons, ← Int.add_assoc]
    exact (forL_nx (env1 := ES8 (wyD w) (tv vs) a least (.val (.int f)) (.val (.int (vAt vs k))) .none) rfl y).trans g
theorem by_walk {W V T : D} {A : List D} {a least z : Int} {s5 : SV} (sl : gSl V (some 1) none = some T) (it : itemsOf T = some A) (g : forL (.nm 5) (sSeq (sSetU 4 (uVal (eOp gAdd (eVar 4) (eFn gLen (eCons (eOfF (eLc (iRng rng1 (eCons (eC (.int (300))) (eNil))) [6] (.nm 6) (eTB (eOp gGe (eCallL [false, false, false, false, false] 5 FP__law_compared (aCons (aRefV 0) (aCons (aRefV 5) (aCons (aRefV 6) (aCons (aVal (eIxB 1 (eC (.int (0))))) (aCons (aVal (eOp gSub (eVar 2) (eC (.int (1))))) (aNil))))))) (eVar 3))) (eVar 6))) (eNil)))))) (PL.ret .next)) A (ES8 W V a least (.val (.int 0)) .none .none) = .ok .next (ES8 W V a least (.val (.int z)) s5 .none)) : FP__law_sh_beyond [.val W, .val V, .val (.int a), .val (.int least)] = .ok (.val (.int z)) [.none, .none, .none, .none] := by
  have r0 : (sSetU 4 (uVal (eC (.int (0))))) (ES8 W V a least .none .none .none) = .ok .next (ES8 W V a least (.val (.int 0)) .none .none) := rfl
  have r1 : (sFor (iSeq (eSl (eVar 1) (some (eC (.int (1)))) none)) (.nm 5) (sSeq (sSetU 4 (uVal (eOp gAdd (eVar 4) (eFn gLen (eCons (eOfF (eLc (iRng rng1 (eCons (eC (.int (300))) (eNil))) [6] (.nm 6) (eTB (eOp gGe (eCallL [false, false, false, false, false] 5 FP__law_compared (aCons (aRefV 0) (aCons (aRefV 5) (aCons (aRefV 6) (aCons (aVal (eIxB 1 (eC (.int (0))))) (aCons (aVal (eOp gSub (eVar 2) (eC (.int (1))))) (aNil))))))) (eVar 3))) (eVar 6))) (eNil)))))) (PL.ret .next))) (ES8 W V a least (.val (.int 0)) .none .none) = .ok .next (ES8 W V a least (.val (.int z)) s5 .none) := sFor_of (by simp (disch := omega) [envOf, mulOk_l, mulOk_r, fits_of, dTru, eSl, oPart, asPart, sl, it]) g
  have r2 : (sRetV 4) (ES8 W V a least (.val (.int z)) s5 .none) = .ok (.ret (.val (.int z))) (ES8 W V a least (.val (.int z)) s5 .none) := rfl
  unfold FP__law_sh_beyond BP__law_sh_beyond
  exact (congrArg (finF [.val W, .val V, .val (.int a), .val (.int least)]) (seq_nx r0 (seq_nx r1 (seq_rt r2)))).trans rfl
theorem drop1 {vs : List Int} (n1 : 1 ≤ vs.length) (n2 : vs.length ≤ 10) : gSl (tv vs) (some 1) none = some (.tup ((List.range' 1 (vs.length - 1)).map fun k => D.int (vAt vs k))) := by
  have e : (vs.map D.int) = .int (vAt vs 0) :: (List.range' 1 (vs.length - 1)).map fun k => D.int (vAt vs k) := by
    rw [map_range]
    obtain ⟨m, hm⟩ : ∃ m, vs.length = m + 1 := ⟨vs.length - 1, by omega⟩
    rw [hm, List.range_eq_range', List.range'_succ, List.map_cons]
    rfl
  show some (D.tup (cutD (vs.map D.int) (some 1) none)) = _
  rw [e]
  generalize hA : (List.range' 1 (vs.length - 1)).map (fun k => D.int (vAt vs k)) = A
  have : A.length ≤ 10 := by rw [← hA, List.length_map, List.length_range']; omega
  have s1 : HT.sIx (D.int (vAt vs 0) :: A).length 0 (some 1) = 1 := by simp [HT.sIx]
  have s2 : HT.sIx (D.int (vAt vs 0) :: A).length (D.int (vAt vs 0) :: A).length none = A.length + 1 := rfl
  unfold cutD
  rw [s1, s2]
  show some (D.tup (A.take (A.length + 1 - 1))) = _
  rw [Nat.add_sub_cancel, List.take_length]
theorem beyond_ok {w : Way} (hw : WOk w) {vs : List Int} (hv : VV vs) {a least : Int} (a1 : 1 ≤ a) (a2 : a ≤ 500) : FP__law_sh_beyond [.val (wyD w), .val (tv vs), .val (.int a), .val (.int least)] = .ok (.val (.int (beyond w vs a least))) [.none, .none, .none, .none] := by
  have n1 := hv.n1
  obtain ⟨t5, g⟩ := by_loop hw hv (least := least) a1 a2 (List.range' 1 (vs.length - 1)) 0 .none fun k hk => (oth_mem hk).2
  rw [Int.zero_add] at g
  exact by_walk (drop1 n1 hv.n2) rfl g
theorem can_ok {w : Way} (hw : WOk w) {vs : List Int} (hv : VV vs) {h a : Int} (a1 : 1 ≤ a) (a2 : a ≤ 500) : FP__law_sh_can [.val (wyD w), .val (.int h), .val (.int a), .val (tv vs)] = .ok (.val (.bl (decide (a + beyond w vs a 1 ≤ h)))) [.none, .none, .none, .none] := by
  have e := beyond_ok hw hv (least := 1) a1 a2
  generalize wyD w = W at *
  generalize tv vs = V at *
  unfold FP__law_sh_can BP__law_sh_can
  simp (disch := omega) [envOf, mulOk_l, mulOk_r, fits_of, dTru, N__law_sh_can, e]
theorem surel_ok {w : Way} (hw : WOk w) {vs : List Int} (hv : VV vs) {h a : Int} (a1 : 1 ≤ a) (a2 : a ≤ 500) : FP__law_sh_sure [.val (wyD w), .val (.int h), .val (.int a), .val (tv vs)] = .ok (.val (.bl (decide (a + beyond w vs a 0 ≤ h)))) [.none, .none, .none, .none] := by
  have e := beyond_ok hw hv (least := 0) a1 a2
  generalize wyD w = W at *
  generalize tv vs = V at *
  unfold FP__law_sh_sure BP__law_sh_sure
  simp (disch := omega) [envOf, mulOk_l, mulOk_r, fits_of, dTru, N__law_sh_sure, e]
/-! shares by steps: votes over a step's number -/
theorem st_ge {t d : Int} (r : RB t d) {vs : List Int} {i j : Nat} {x y : Int} (vi : 0 ≤ vAt vs i) (vj : 0 ≤ vAt vs j) (x0 : 0 ≤ x) (y0 : 0 ≤ y) : 0 ≤ cc (.st t d) vs i x j y ↔ vAt vs j * (x * d + t) ≤ vAt vs i * (y * d + t) := by
  have r1 := r.t1
  have r2 := r.t2
  have px : 0 < x * d + t := by have := Int.mul_nonneg x0 (show 0 ≤ d by omega); omega
  have py : 0 < y * d + t := by have := Int.mul_nonneg y0 (show 0 ≤ d by omega); omega
  have px2 : 0 < (x * d + t) * (x * d + t) := Int.mul_pos px px
  have py2 : 0 < (y * d + t) * (y * d + t) := Int.mul_pos py py
  have dd : 0 < d * d := Int.mul_pos (by omega) (by omega)
  show 0 ≤ cmpW (.st t d) (vAt vs i) x (vAt vs j) y ↔ _
  unfold cmpW
  rw [cmpQ_ge]
  simp only [sqT, sqB]
  generalize x * d + t = X at *
  generalize y * d + t = Y at *
  generalize vAt vs i = v at *
  generalize vAt vs j = u at *
  have s := sq_lt (X := v * Y) (Y := u * X) (Int.mul_nonneg vi (by omega)) (Int.mul_nonneg vj (by omega))
  have e1 : u * u * (d * d) * (X * X) = (d * d) * (u * X * (u * X)) := by grind
  have e2 : v * v * (d * d) * (Y * Y) = (d * d) * (v * Y * (v * Y)) := by grind
  rw [e1, e2]
  constructor
  · rintro (⟨z, _⟩ | ⟨z, _⟩ | ⟨_, _, z⟩)
    · omega
    · omega
    · have z' := Int.le_of_mul_le_mul_left z dd
      rcases Int.lt_or_le (v * Y) (u * X) with q | q
      · have := s.mpr q; omega
      · exact q
  · intro z
    refine .inr (.inr ⟨by omega, by omega, Int.mul_le_mul_of_nonneg_left ?_ (by omega)⟩)
    rcases Int.lt_or_le (v * Y * (v * Y)) (u * X * (u * X)) with q | q
    · have := s.mp q; omega
    · exact q
theorem nB_mono {w : Way} (hw : WOk w) {vs : List Int} (hv : VV vs) {a least : Int} (a1 : 1 ≤ a) (a2 : a ≤ 400) (hl : least = 0 ∨ least = 1) {j : Nat} (hj : j < vs.length) {k l : Nat} (kl : k ≤ l) (l3 : l ≤ 300) (h : least ≤ cc w vs j (l : Int) 0 (a - 1)) : least ≤ cc w vs j (k : Int) 0 (a - 1) := by
  have n1 := hv.n1
  have vj := hv.vat hj
  have m : 0 ≤ cc w vs j (k : Int) j (l : Int) := cmpW_le' hw (by omega) (by omega) (by omega) (by omega)
  have b1 : (0 : Int) ≤ k ∧ (k : Int) ≤ 1000 := by omega
  have b2 : (0 : Int) ≤ l ∧ (l : Int) ≤ 1000 := by omega
  rcases hl with rfl | rfl
  · exact cmpW_trans hw b1.1 b1.2 b2.1 b2.2 (show 0 ≤ a - 1 by omega) (by omega) m h
  · have t0 := cmpW_trans hw b1.1 b1.2 b2.1 b2.2 (show 0 ≤ a - 1 by omega) (by omega) m (show 0 ≤ cc w vs j (l : Int) 0 (a - 1) by omega)
    rcases Int.lt_or_le 0 (cc w vs j (k : Int) 0 (a - 1)) with q | q
    · omega
    · exfalso
      have s1 := cc_swap (w := w) (vs := vs) (i := j) (j := 0) (a := (k : Int)) (b := a - 1)
      have s2 := cc_swap (w := w) (vs := vs) (i := j) (j := 0) (a := (l : Int)) (b := a - 1)
      have := cmpW_trans hw (show 0 ≤ a - 1 by omega) (by omega) b1.1 b1.2 b2.1 b2.2 (show 0 ≤ cc w vs 0 (a - 1) j (k : Int) by omega) m
      have s3 : cmpW w (vAt vs 0) (a - 1) (vAt vs j) (l : Int) = cc w vs 0 (a - 1) j (l : Int) := rfl
      omega
theorem sum_scale {f : Nat → Int} {c : Int} : ∀ ks : List Nat, (ks.map fun k => f k * c).sum = (ks.map f).sum * c
  | [] => by simp
  | k :: ks => by
    rw [List.map_cons, List.map_cons, List.sum_cons, List.sum_cons, sum_scale ks, Int.add_mul]
theorem sum_lin {f : Nat → Int} {v e t : Int} : ∀ ks : List Nat, (ks.map fun k => v * (f k * e + t)).sum = v * ((ks.map f).sum * e + ks.length * t)
  | [] => by simp
  | k :: ks => by
    rw [List.map_cons, List.map_cons, List.sum_cons, List.sum_cons, sum_lin ks, List.length_cons, Int.natCast_succ]
    grind
/-! who can have so many seats has the least part -/
theorem can_part {t d : Int} (r : RB t d) {vs : List Int} (hv : VV vs) {h a : Int} (a1 : 1 ≤ a) (ah : a ≤ h) (h2 : h ≤ 200) (c : a + beyond (.st t d) vs a 1 ≤ h) : vs.sum * pT t d a ≤ vAt vs 0 * pB t d vs.length h := by
  have n1 := hv.n1
  have r1 := r.t1
  have r2 := r.t2
  have v0 := hv.vat (j := 0) (by omega)
  have sp := sum_parts (ss := vs) rfl n1
  unfold beyond at c
  have nn : ∀ j, 0 ≤ nB (.st t d) vs a 1 j := fun j => by unfold nB cnt; omega
  have each : ∀ j ∈ List.range' 1 (vs.length - 1), vAt vs j * pT t d a ≤ vAt vs 0 * (nB (.st t d) vs a 1 j * d + t) := fun j hj => by
    obtain ⟨j0, j1⟩ := oth_mem hj
    have vj := hv.vat j1
    have le : nB (.st t d) vs a 1 j ≤ othS (nB (.st t d) vs a 1) vs.length := by
      unfold othS
      exact sum_mem ((List.range' 1 (vs.length - 1)).map (nB (.st t d) vs a 1)) (fun s hs => by obtain ⟨x, _, rfl⟩ := List.mem_map.mp hs; exact nn x) _ (List.mem_map.mpr ⟨j, hj, rfl⟩)
    have n0 := nn j
    obtain ⟨m, hm⟩ : ∃ m : Nat, nB (.st t d) vs a 1 j = m := ⟨(nB (.st t d) vs a 1 j).toNat, by omega⟩
    have st : ¬ (1 ≤ cc (.st t d) vs j (m : Int) 0 (a - 1)) := by
      intro q
      have := nB_ge (w := .st t d) (vs := vs) (a := a) (least := 1) (j := j) (m := (m : Int) + 1) (by omega) (by omega) fun k hk => nB_mono (w := .st t d) r hv a1 (by omega) (.inr rfl) j1 (show k ≤ m by omega) (by omega) q
      omega
    have sw := cc_swap (w := .st t d) (vs := vs) (i := j) (j := 0) (a := (m : Int)) (b := a - 1)
    have g := (st_ge r (vs := vs) (i := 0) (j := j) (x := a - 1) (y := (m : Int)) (by omega) (by omega) (by omega) (by omega)).mp (by omega)
    rw [hm]
    exact g
  have s1 := sum_mono (f := fun j => vAt vs j * pT t d a) (g := fun j => vAt vs 0 * (nB (.st t d) vs a 1 j * d + t)) _ each
  rw [sum_scale, sum_lin, List.length_range'] at s1
  have s2 : ((List.range' 1 (vs.length - 1)).map (nB (.st t d) vs a 1)).sum * d ≤ (h - a) * d := Int.mul_le_mul_of_nonneg_right (by unfold othS at c; omega) (by omega)
  have s3 := Int.mul_le_mul_of_nonneg_left (show ((List.range' 1 (vs.length - 1)).map (nB (.st t d) vs a 1)).sum * d + ((vs.length - 1 : Nat) : Int) * t ≤ (h - a) * d + ((vs.length - 1 : Nat) : Int) * t by omega) (show 0 ≤ vAt vs 0 by omega)
  have e1 : vs.sum * pT t d a = vAt vs 0 * pT t d a + ((List.range' 1 (vs.length - 1)).map (vAt vs)).sum * pT t d a := by rw [sp]; unfold othS; grind
  have e2 : vAt vs 0 * pB t d vs.length h = vAt vs 0 * pT t d a + vAt vs 0 * ((h - a) * d + ((vs.length - 1 : Nat) : Int) * t) := by
    have : ((vs.length - 1 : Nat) : Int) = (vs.length : Int) - 1 := by omega
    rw [this]
    unfold pT pB
    grind
  omega
/-! told votes: seats of others, parts, votes that stand so -/
/-! fractions taken away, the law's sums -/
theorem low_sum {f v : Nat → Int} {P V d t : Int} (P1 : 1 ≤ P) (d0 : 0 < d) (h : ∀ k, 1 ≤ v k) (g : ∀ k, ∀ b : Int, 1 ≤ b → b ≤ f k → V * ((b - 1) * d + t) ≤ v k * P) : ∀ (ks : List Nat) (L : Int), (∀ k ∈ ks, 0 ≤ f k) → 0 ≤ L → L ≤ (ks.map f).sum →
    ∃ J : Int, 0 ≤ J ∧ J ≤ L ∧ J ≤ ks.length ∧ V * (L * d - J * (d - t)) + (ks.length - J) ≤ (ks.map fun k => v k * P).sum
  | [], L, _, L0, hL => ⟨0, by omega, by omega, by simp, by
      have : L = 0 := by simp at hL; omega
      subst this
      simp⟩
  | k :: ks, L, f0, L0, hL => by
    rw [List.map_cons, List.sum_cons] at hL
    have fk := f0 k (List.mem_cons_self ..)
    have vp : 1 ≤ v k * P := by
      have := Int.mul_le_mul (h k) P1 (by decide) (by have := h k; omega)
      omega
    obtain ⟨b, hb⟩ : ∃ b : Int, b = if f k < L then f k else L := ⟨_, rfl⟩
    have b0 : 0 ≤ b ∧ b ≤ f k ∧ b ≤ L := by rw [hb]; split <;> omega
    have s0 : 0 ≤ (ks.map f).sum := sum_nn fun x hx => by obtain ⟨y, hy, rfl⟩ := List.mem_map.mp hx; exact f0 y (List.mem_cons_of_mem _ hy)
    have bL : L - b ≤ (ks.map f).sum := by rw [hb]; split <;> omega
    obtain ⟨J, j0, j1, j2, j3⟩ := low_sum P1 d0 h g ks (L - b) (fun x hx => f0 x (List.mem_cons_of_mem _ hx)) (by omega) bL
    rw [List.map_cons, List.sum_cons, List.length_cons, Int.natCast_succ]
    by_cases q : b = 0
    · rw [q, Int.sub_zero] at j1 j3
      exact ⟨J, j0, j1, by omega, by omega⟩
    · have gb := g k b (by omega) b0.2.1
      refine ⟨J + 1, by omega, by omega, by omega, ?_⟩
      have e : V * (L * d - (J + 1) * (d - t)) = V * ((L - b) * d - J * (d - t)) + V * ((b - 1) * d + t) := by grind
      omega
theorem sure_part {t d : Int} (r : RB t d) {vs : List Int} (hv : VV vs) {h a : Int} (n2 : 2 ≤ vs.length) (a1 : 1 ≤ a) (ah : a ≤ h) (h2 : h ≤ 200) (c : ¬ a + beyond (.st t d) vs a 0 ≤ h) : vAt vs 0 * sB t d vs.length h a ≤ vs.sum * pT t d a ∧ ((vs.length : Int) - 1 > h - a + 1 → vAt vs 0 * sB t d vs.length h a < vs.sum * pT t d a) := by
  have n1 := hv.n1
  have n3 := hv.n2
  have r1 := r.t1
  have r2 := r.t2
  have v0 := hv.vat (j := 0) (by omega)
  have sp := sum_parts (ss := vs) rfl n1
  have k : NB (vs.length : Int) h a := ⟨by omega, by omega, h2, a1, ah⟩
  obtain ⟨p1, p2⟩ := pT_bd r k
  unfold beyond othS at c
  have nn : ∀ j, 0 ≤ nB (.st t d) vs a 0 j := fun j => by unfold nB cnt; omega
  obtain ⟨J, j0, j1, j2, j3⟩ := low_sum (f := fun j => if j < vs.length then nB (.st t d) vs a 0 j else 0) (v := fun j => if j < vs.length then vAt vs j else 1) (P := pT t d a) (V := vAt vs 0) (d := d) (t := t) p1 (by omega) (fun j => by
    split
    · rename_i q; exact (hv.vat q).1
    · omega) (fun j b b1 bf => by
    split at bf
    · rename_i q
      rw [if_pos q]
      have vj := hv.vat q
      obtain ⟨m, hm⟩ : ∃ m : Nat, b = (m : Int) + 1 := ⟨(b - 1).toNat, by omega⟩
      have c1 : (0 : Int) ≤ cc (.st t d) vs j (m : Int) 0 (a - 1) := by
        rcases Int.lt_or_le (cc (.st t d) vs j (m : Int) 0 (a - 1)) 0 with x | x
        · exfalso
          have := nB_le (w := .st t d) (vs := vs) (a := a) (least := 0) (j := j) (m := (m : Int)) (by omega) fun l l0 l1 => by
            rcases Int.lt_or_le (cc (.st t d) vs j (l : Int) 0 (a - 1)) 0 with y | y
            · exact y
            · exfalso
              have := nB_mono (w := .st t d) r hv a1 (by omega) (.inl rfl) q (show m ≤ l by omega) (by omega) y
              omega
          omega
        · exact x
      have g := (st_ge r (vs := vs) (i := j) (j := 0) (x := (m : Int)) (y := a - 1) (by omega) (by omega) (by omega) (by omega)).mp c1
      rw [hm, show (m : Int) + 1 - 1 = (m : Int) by omega]
      exact g
    · omega) (List.range' 1 (vs.length - 1)) (h - a + 1) (fun j hj => by
    split
    · exact nn j
    · omega) (by omega) (by
    have e : (List.range' 1 (vs.length - 1)).map (fun j => if j < vs.length then nB (.st t d) vs a 0 j else 0) = (List.range' 1 (vs.length - 1)).map (nB (.st t d) vs a 0) := List.map_congr_left fun j hj => if_pos (oth_mem hj).2
    rw [e]
    omega)
  have e2 : (List.range' 1 (vs.length - 1)).map (fun j => (if j < vs.length then vAt vs j else 1) * pT t d a) = (List.range' 1 (vs.length - 1)).map (fun j => vAt vs j * pT t d a) := List.map_congr_left fun j hj => by rw [if_pos (oth_mem hj).2]
  rw [e2, sum_scale, List.length_range'] at j3
  rw [List.length_range'] at j2
  have Jm : J ≤ wsO (vs.length : Int) h a := by unfold wsO; split <;> omega
  have q1 := Int.mul_le_mul_of_nonneg_right Jm (show 0 ≤ d - t by omega)
  have q2 := Int.mul_le_mul_of_nonneg_left (show (h - a + 1) * d - wsO (vs.length : Int) h a * (d - t) ≤ (h - a + 1) * d - J * (d - t) by omega) (show 0 ≤ vAt vs 0 by omega)
  have e1 : vs.sum * pT t d a = vAt vs 0 * pT t d a + ((List.range' 1 (vs.length - 1)).map (vAt vs)).sum * pT t d a := by rw [sp]; unfold othS; grind
  have e3 : vAt vs 0 * sB t d vs.length h a = vAt vs 0 * pT t d a + vAt vs 0 * ((h - a + 1) * d - wsO (vs.length : Int) h a * (d - t)) := by
    unfold sB pT
    grind
  constructor
  · omega
  · intro q
    omega
end LW
namespace LW
open PySem PL L2
/-! parts -/
structure PQ (p q : Int) : Prop where
  p1 : 1 ≤ p
  pq : p < q
  q6 : q ≤ 1000000
  g : Int.gcd p q = 1
theorem PQ.fr {p q : Int} (h : PQ p q) : frac p q = LW.fr p q := by
  unfold frac
  rw [h.g]
  simp
theorem PQ.fs {p q : Int} (h : PQ p q) : FS p q := by
  have := h.p1; have := h.pq; have := h.q6
  exact ⟨by omega, by omega, by omega⟩
theorem rpart_ok {p q : Int} (h : PQ p q) : FP_require_part [.val (fr p q)] = .ok (.val .non) [.none] := by
  have h1 := h.p1; have h2 := h.pq; have h3 := h.q6
  have e1 := isfrac_ok (t := p) (b := q) (by omega) (big_of (by omega)) h.g
  have e2 := near_ok (x := p) (by omega) (by omega)
  have e3 := near_ok (x := q) (by omega) (by omega)
  have e : FP_is_near_fraction [.val (fr p q)] = .ok (.val (.bl true)) [.none] := by
    unfold FP_is_near_fraction BP_is_near_fraction
    simp (disch := omega) [envOf, mulOk_l, mulOk_r, fits_of, dTru, N_is_near_fraction, e1, e2, e3]
  have c1 : 0 < p := by omega
  have c2 : ¬ 1000000 < q := by omega
  unfold FP_require_part BP_require_part
  simp (disch := omega) [envOf, mulOk_l, mulOk_r, fits_of, dTru, N_require_part, e, c1, h2, c2, eChain]
theorem lissure_ok {R X P : D} {n h a : Int} {p q : Bool} (e : FP__law_sh_bound [.val R, .val (.int n), .val (.int h), .val (.int a)] = .ok (.val X) [.none, .none, .none, .none]) (e2 : FP__law_fr_less [.val X, .val P] = .ok (.val (.bl p)) [.none, .none]) (e3 : gEq X P = some (.bl q)) : FP__law_sh_is_sure [.val R, .val (.int n), .val (.int h), .val (.int a), .val P] = .ok (.val (.bl (p || (q && decide (h - a + 1 < n - 1))))) [.none, .none, .none, .none, .none] := by
  unfold FP__law_sh_is_sure BP__law_sh_is_sure
  cases p <;> cases q <;> simp (disch := omega) [envOf, mulOk_l, mulOk_r, fits_of, dTru, N__law_sh_is_sure, e, e2, e3, dTru]
theorem pissure_ok {R X P : D} {n h a : Int} {p q : Bool} (e : FP_sure_in [.val R, .val (.int n), .val (.int h), .val (.int a)] = .ok (.val X) [.none, .none, .none, .none]) (e2 : FP_is_less [.val X, .val P] = .ok (.val (.bl p)) [.none, .none]) (e3 : gEq X P = some (.bl q)) : FP_is_sure [.val R, .val (.int n), .val (.int h), .val (.int a), .val P] = .ok (.val (.bl (p || (q && decide (h - a + 1 < n - 1))))) [.none, .none, .none, .none, .none] := by
  unfold FP_is_sure BP_is_sure
  cases p <;> cases q <;> simp (disch := omega) [envOf, mulOk_l, mulOk_r, fits_of, dTru, N_is_sure, e, e2, e3, dTru]
def canP (t d n h p q : Int) (a : Int) : Bool := decide (pT t d a * q ≤ p * pB t d n h)
def sureP (t d n h p q : Int) (a : Int) : Bool := decide (pT t d a * q < p * sB t d n h a) || (decide (pT t d a * q = p * sB t d n h a) && decide (h - a + 1 < n - 1))
/-! the greatest of such numbers -/
structure MX (P : Int → Bool) (h : Nat) (m : Nat) : Prop where
  le : m ≤ h
  in_ : m = 0 ∨ P m = true
  top : ∀ a : Nat, 1 ≤ a → a ≤ h → P a = true → a ≤ m
theorem mx_some (P : Int → Bool) : ∀ h : Nat, ∃ m, MX P h m
  | 0 => ⟨0, by omega, .inl rfl, fun a a1 a2 _ => by omega⟩
  | h + 1 => by
    obtain ⟨m, m1, m2, m3⟩ := mx_some P h
    by_cases c : P ((h + 1 : Nat) : Int) = true
    · exact ⟨h + 1, by omega, .inr c, fun a _ a2 _ => a2⟩
    · refine ⟨m, by omega, m2, fun a a1 a2 pa => ?_⟩
      by_cases e : a = h + 1
      · rw [e] at pa; exact absurd pa c
      · exact m3 a a1 (by omega) pa
def pList (P : Int → Bool) (h : Nat) : List Int := ((List.range (h + 1)).filter fun a : Nat => decide ((a : Int) = 0) || P (a : Int)).map fun a : Nat => (a : Int)
def lList (P : Int → Bool) (h : Nat) : List Int := ((List.range' 1 h).filter fun a : Nat => P (a : Int)).map fun a : Nat => (a : Int)
theorem mx_p {P : Int → Bool} {h m : Nat} (x : MX P h m) : maxI (pList P h) = m ∧ 0 < (pList P h).length := by
  have mem : (m : Int) ∈ pList P h := by
    refine List.mem_map.mpr ⟨m, List.mem_filter.mpr ⟨List.mem_range.mpr (by have := x.le; omega), ?_⟩, rfl⟩
    rcases x.in_ with q | q
    · simp [q]
    · simp [q]
  refine ⟨maxI_eq mem fun y hy => ?_, List.length_pos_of_mem mem⟩
  obtain ⟨a, ha, rfl⟩ := List.mem_map.mp hy
  obtain ⟨a1, a2⟩ := List.mem_filter.mp ha
  have := List.mem_range.mp a1
  rw [Bool.or_eq_true, decide_eq_true_eq] at a2
  rcases a2 with a2 | a2
  · omega
  · by_cases z : a = 0
    · omega
    · have := x.top a (by omega) (by omega) a2
      omega
theorem mx_l {P : Int → Bool} {h m : Nat} (x : MX P h m) : maxI (lList P h ++ [0]) = m ∧ 0 < (lList P h ++ [0]).length := by
  have mem : (m : Int) ∈ lList P h ++ [0] := by
    rw [List.mem_append]
    by_cases z : m = 0
    · subst z; exact .inr (List.mem_singleton.mpr rfl)
    · rcases x.in_ with q | q
      · exact absurd q z
      · exact .inl (List.mem_map.mpr ⟨m, List.mem_filter.mpr ⟨List.mem_range'_1.mpr ⟨by omega, by have := x.le; omega⟩, q⟩, rfl⟩)
  refine ⟨maxI_eq mem fun y hy => ?_, List.length_pos_of_mem mem⟩
  rcases List.mem_append.mp hy with hy | hy
  · obtain ⟨a, ha, rfl⟩ := List.mem_map.mp hy
    obtain ⟨a1, a2⟩ := List.mem_filter.mp ha
    have := List.mem_range'_1.mp a1
    have := x.top a (by omega) (by omega) a2
    omega
  · rw [List.mem_singleton.mp hy]
    omega
theorem gMax_list {l : List Int} (h : 0 < l.length) : gMax [.lst (l.map .int)] = some (.int (maxI l)) := by
  simp only [gMax, asInts_map]
  rw [if_pos h]
/-! the package's span -/
abbrev EY (R P : D) (n h : Int) (s4 s5 s6 : SV) : PL.Env := [.val R, .val (.int n), .val (.int h), .val P, s4, s5, s6]
theorem sy_c1 {R P X : D} {n h a : Int} {z : Bool} {s4 s5 : SV} (e : a ≠ 0 → FP_possible_in [.val R, .val (.int n), .val (.int h), .val (.int a)] = .ok (.val X) [.none, .none, .none, .none] ∧ FP_is_at_most [.val X, .val P] = .ok (.val (.bl z)) [.none, .none]) : (tOrM (eTB (eOpL gEq 6 (eC (.int (0))))) (eTru (eCallL [false, false] 2 FP_is_at_most (aCons (aVal (eCallL [false, false, false, false] 4 FP_possible_in (aCons (aRefV 0) (aCons (aRefV 1) (aCons (aRefV 2) (aCons (aRefV 6) (aNil))))))) (aCons (aRefV 3) (aNil)))))) (EY R P n h s4 s5 (.val (.int a))) = .ok (decide (a = 0) || z) (EY R P n h s4 s5 (.val (.int a))) := by
  by_cases q : a = 0
  · simp (disch := omega) [envOf, mulOk_l, mulOk_r, fits_of, dTru, q]
  · obtain ⟨e1, e2⟩ := e q
    cases z <;> simp (disch := omega) [envOf, mulOk_l, mulOk_r, fits_of, dTru, q, e1, e2]
theorem sy_c2 {R P : D} {n h a : Int} {z : Bool} {s4 s5 : SV} (e : a ≠ 0 → FP_is_sure [.val R, .val (.int n), .val (.int h), .val (.int a), .val P] = .ok (.val (.bl z)) [.none, .none, .none, .none, .none]) : (tOrM (eTB (eOpL gEq 6 (eC (.int (0))))) (eTru (eCallL [false, false, false, false, false] 5 FP_is_sure (aCons (aRefV 0) (aCons (aRefV 1) (aCons (aRefV 2) (aCons (aRefV 6) (aCons (aRefV 3) (aNil))))))))) (EY R P n h s4 s5 (.val (.int a))) = .ok (decide (a = 0) || z) (EY R P n h s4 s5 (.val (.int a))) := by
  by_cases q : a = 0
  · simp (disch := omega) [envOf, mulOk_l, mulOk_r, fits_of, dTru, q]
  · have e1 := e q
    cases z <;> simp (disch := omega) [envOf, mulOk_l, mulOk_r, fits_of, dTru, q, e1]
theorem sy_src {R P : D} {n h : Int} {A : List D} {s4 s5 s6 : SV} (rg : rng1 [.int (h + 1)] = some A) : (iRng rng1 (eCons (eOp gAdd (eVar 2) (eC (.int (1)))) (eNil))) (EY R P n h s4 s5 s6) = .ok A (EY R P n h s4 s5 s6) := by
  simp (disch := omega) [envOf, mulOk_l, mulOk_r, fits_of, dTru, rg]
theorem sy_row0 {R P : D} {n h m : Int} {L : List D} (lc : (eLc (iRng rng1 (eCons (eOp gAdd (eVar 2) (eC (.int (1)))) (eNil))) [6] (.nm 6) (tOrM (eTB (eOpL gEq 6 (eC (.int (0))))) (eTru (eCallL [false, false] 2 FP_is_at_most (aCons (aVal (eCallL [false, false, false, false] 4 FP_possible_in (aCons (aRefV 0) (aCons (aRefV 1) (aCons (aRefV 2) (aCons (aRefV 6) (aNil))))))) (aCons (aRefV 3) (aNil)))))) (eVar 6)) (EY R P n h .none .none .none) = .ok L (EY R P n h .none .none .none)) (mx : gMax [.lst L] = some (.int m)) : (sSetU 4 (uVal (eFn gMax (eCons (eOfF (eLc (iRng rng1 (eCons (eOp gAdd (eVar 2) (eC (.int (1)))) (eNil))) [6] (.nm 6) (tOrM (eTB (eOpL gEq 6 (eC (.int (0))))) (eTru (eCallL [false, false] 2 FP_is_at_most (aCons (aVal (eCallL [false, false, false, false] 4 FP_possible_in (aCons (aRefV 0) (aCons (aRefV 1) (aCons (aRefV 2) (aCons (aRefV 6) (aNil))))))) (aCons (aRefV 3) (aNil)))))) (eVar 6))) (eNil))))) (EY R P n h .none .none .none) = .ok .next (EY R P n h (.val (.int m)) .none .none) := by
  generalize (eLc (iRng rng1 (eCons (eOp gAdd (eVar 2) (eC (.int (1)))) (eNil))) [6] (.nm 6) (tOrM (eTB (eOpL gEq 6 (eC (.int (0))))) (eTru (eCallL [false, false] 2 FP_is_at_most (aCons (aVal (eCallL [false, false, false, false] 4 FP_possible_in (aCons (aRefV 0) (aCons (aRefV 1) (aCons (aRefV 2) (aCons (aRefV 6) (aNil))))))) (aCons (aRefV 3) (aNil)))))) (eVar 6)) = MM at *
  simp (disch := omega) [envOf, mulOk_l, mulOk_r, fits_of, dTru, lc, mx]
theorem sy_row1 {R P : D} {n h m : Int} {L : List D} {s4 : SV} (lc : (eLc (iRng rng1 (eCons (eOp gAdd (eVar 2) (eC (.int (1)))) (eNil))) [6] (.nm 6) (tOrM (eTB (eOpL gEq 6 (eC (.int (0))))) (eTru (eCallL [false, false, false, false, false] 5 FP_is_sure (aCons (aRefV 0) (aCons (aRefV 1) (aCons (aRefV 2) (aCons (aRefV 6) (aCons (aRefV 3) (aNil))))))))) (eVar 6)) (EY R P n h s4 .none .none) = .ok L (EY R P n h s4 .none .none)) (mx : gMax [.lst L] = some (.int m)) : (sSetU 5 (uVal (eFn gMax (eCons (eOfF (eLc (iRng rng1 (eCons (eOp gAdd (eVar 2) (eC (.int (1)))) (eNil))) [6] (.nm 6) (tOrM (eTB (eOpL gEq 6 (eC (.int (0))))) (eTru (eCallL [false, false, false, false, false] 5 FP_is_sure (aCons (aRefV 0) (aCons (aRefV 1) (aCons (aRefV 2) (aCons (aRefV 6) (aCons (aRefV 3) (aNil))))))))) (eVar 6))) (eNil))))) (EY R P n h s4 .none .none) = .ok .next (EY R P n h s4 (.val (.int m)) .none) := by
  generalize (eLc (iRng rng1 (eCons (eOp gAdd (eVar 2) (eC (.int (1)))) (eNil))) [6] (.nm 6) (tOrM (eTB (eOpL gEq 6 (eC (.int (0))))) (eTru (eCallL [false, false, false, false, false] 5 FP_is_sure (aCons (aRefV 0) (aCons (aRefV 1) (aCons (aRefV 2) (aCons (aRefV 6) (aCons (aRefV 3) (aNil))))))))) (eVar 6)) = MM at *
  simp (disch := omega) [envOf, mulOk_l, mulOk_r, fits_of, dTru, lc, mx]
theorem pmap_D {P : Int → Bool} {h : Nat} : ((List.range (h + 1)).filter fun a : Nat => decide ((a : Int) = 0) || P (a : Int)).map (fun a : Nat => D.int (a : Int)) = (pList P h).map .int := by
  unfold pList
  rw [List.map_map]
  rfl
theorem rng_up {h : Nat} (h2 : h ≤ 200) : rng1 [.int ((h : Int) + 1)] = some ((List.range (h + 1)).map fun j : Nat => D.int (j : Int)) := by
  rw [rng1_natM (by omega) (by omega), show ((h : Int) + 1).toNat = h + 1 by omega, rngL_range0]
section
variable {t d n p q : Int} {h : Nat}
theorem span_ok (r : RB t d) (n1 : 2 ≤ n) (n2 : n ≤ 10) (h2 : h ≤ 200) (pq : PQ p q) {mc ms : Nat} (xc : MX (canP t d n h p q) h mc) (xs : MX (sureP t d n h p q) h ms) : FP_span_by [.val (fr t d), .val (.int n), .val (.int (h : Int)), .val (fr p q)] = .ok (.val (.tup [.int (ms : Int), .int (mc : Int)])) [.none, .none, .none, .none] := by
  have nb : ∀ a : Nat, a < h + 1 → (a : Int) ≠ 0 → NB n h a := fun a ha a0 => ⟨n1, n2, by omega, by omega, by omega⟩
  obtain ⟨c1, c2⟩ := mx_p xc
  obtain ⟨s1, s2⟩ := mx_p xs
  have lc1 : (eLc (iRng rng1 (eCons (eOp gAdd (eVar 2) (eC (.int (1)))) (eNil))) [6] (.nm 6) (tOrM (eTB (eOpL gEq 6 (eC (.int (0))))) (eTru (eCallL [false, false] 2 FP_is_at_most (aCons (aVal (eCallL [false, false, false, false] 4 FP_possible_in (aCons (aRefV 0) (aCons (aRefV 1) (aCons (aRefV 2) (aCons (aRefV 6) (aNil))))))) (aCons (aRefV 3) (aNil)))))) (eVar 6)) (EY (fr t d) (fr p q) n h .none .none .none) = .ok ((pList (canP t d n h p q) h).map .int) (EY (fr t d) (fr p q) n h .none .none .none) := by
    rw [← pmap_D]
    refine eLc_filter (fun a : Nat => decide ((a : Int) = 0) || canP t d n h p q (a : Int)) (fun a : Nat => D.int (a : Int)) (fun a : Nat => D.int (a : Int)) (List.range (h + 1)) (sy_src (rng_up h2)) (by rw [List.length_range]; omega) fun a ha => ⟨EY (fr t d) (fr p q) n h .none .none (.val (.int (a : Int))), EY (fr t d) (fr p q) n h .none .none (.val (.int (a : Int))), EY (fr t d) (fr p q) n h .none .none (.val (.int (a : Int))), rfl, sy_c1 (X := frac (pT t d a) (pB t d n h)) (fun a0 => ?_), fun _ => rfl, by rw [ite_self]; rfl⟩
    have k := nb a (List.mem_range.mp ha) a0
    have b1 := pT_bd r k
    have b2 := pB_bd r k
    have e := atmost_fr (show FS (pT t d a) (pB t d n h) from ⟨by omega, by omega, by omega⟩) pq.fs
    rw [pq.fr] at e
    exact ⟨poss_ok r k, e⟩
  have lc2 : ∀ s4 : SV, s4 = .val (.int (mc : Int)) → (eLc (iRng rng1 (eCons (eOp gAdd (eVar 2) (eC (.int (1)))) (eNil))) [6] (.nm 6) (tOrM (eTB (eOpL gEq 6 (eC (.int (0))))) (eTru (eCallL [false, false, false, false, false] 5 FP_is_sure (aCons (aRefV 0) (aCons (aRefV 1) (aCons (aRefV 2) (aCons (aRefV 6) (aCons (aRefV 3) (aNil))))))))) (eVar 6)) (EY (fr t d) (fr p q) n h s4 .none .none) = .ok ((pList (sureP t d n h p q) h).map .int) (EY (fr t d) (fr p q) n h s4 .none .none) := fun s4 h4 => by
    subst h4
    rw [← pmap_D]
    refine eLc_filter (fun a : Nat => decide ((a : Int) = 0) || sureP t d n h p q (a : Int)) (fun a : Nat => D.int (a : Int)) (fun a : Nat => D.int (a : Int)) (List.range (h + 1)) (sy_src (rng_up h2)) (by rw [List.length_range]; omega) fun a ha => ⟨EY (fr t d) (fr p q) n h (.val (.int (mc : Int))) .none (.val (.int (a : Int))), EY (fr t d) (fr p q) n h (.val (.int (mc : Int))) .none (.val (.int (a : Int))), EY (fr t d) (fr p q) n h (.val (.int (mc : Int))) .none (.val (.int (a : Int))), rfl, sy_c2 (fun a0 => ?_), fun _ => rfl, by rw [ite_self]; rfl⟩
    have k := nb a (List.mem_range.mp ha) a0
    have b1 := pT_bd r k
    have b2 := sB_bd r k
    have fs : FS (pT t d a) (sB t d n h a) := ⟨by omega, by omega, by omega⟩
    have e1 := isless_fr fs pq.fs
    have e2 := gEq_frac fs pq.fs
    rw [pq.fr] at e1 e2
    exact pissure_ok (sure_ok r k) e1 e2
  have r0 := sy_row0 lc1 (gMax_list c2)
  rw [c1] at r0
  have r1 := sy_row1 (lc2 _ rfl) (gMax_list s2)
  rw [s1] at r1
  have r2 : (sRetU (uVal (eTup (eCons (eVar 5) (eCons (eVar 4) (eNil)))))) (EY (fr t d) (fr p q) n h (.val (.int (mc : Int))) (.val (.int (ms : Int))) .none) = .ok (.ret (.val (.tup [.int (ms : Int), .int (mc : Int)]))) (EY (fr t d) (fr p q) n h (.val (.int (mc : Int))) (.val (.int (ms : Int))) .none) := by simp (disch := omega) [envOf, mulOk_l, mulOk_r, fits_of, dTru]
  unfold FP_span_by BP_span_by
  exact (congrArg (finF [.val (fr t d), .val (.int n), .val (.int (h : Int)), .val (fr p q)]) (seq_nx r0 (seq_nx r1 (seq_rt r2)))).trans rfl
theorem sspan_w {W R P T : D} {n h : Int} (e1 : FP_require_step_way [.val W] = .ok (.val .non) [.none]) (e2 : FP_require_number [.val (.int n), .val (.int 2), .val (.int 10)] = .ok (.val .non) [.none, .none, .none]) (e3 : FP_require_number [.val (.int h), .val (.int 1), .val (.int 200)] = .ok (.val .non) [.none, .none, .none]) (e4 : FP_require_part [.val P] = .ok (.val .non) [.none]) (g : gIx W (.int 1) = some R) (e5 : FP_span_by [.val R, .val (.int n), .val (.int h), .val P] = .ok (.val T) [.none, .none, .none, .none]) : FP_seats_span [.val W, .val (.int n), .val (.int h), .val P] = .ok (.val T) [.none, .none, .none, .none] := by
  unfold FP_seats_span BP_seats_span
  simp (disch := omega) [envOf, mulOk_l, mulOk_r, fits_of, dTru, N_seats_span, e1, e2, e3, e4, g, e5]
theorem sspan_ok (r : RB t d) (n1 : 2 ≤ n) (n2 : n ≤ 10) (h1 : 1 ≤ h) (h2 : h ≤ 200) (pq : PQ p q) {mc ms : Nat} (xc : MX (canP t d n h p q) h mc) (xs : MX (sureP t d n h p q) h ms) : FP_seats_span [.val (wyD (.st t d)), .val (.int n), .val (.int (h : Int)), .val (fr p q)] = .ok (.val (.tup [.int (ms : Int), .int (mc : Int)])) [.none, .none, .none, .none] := by
  have e1 := rstep_ok r
  have e2 := req_number_ok n1 n2 (by decide) (by decide)
  have e3 := req_number_ok (x := (h : Int)) (a := 1) (b := 200) (by omega) (by omega) (by decide) (by decide)
  have e4 := rpart_ok pq
  have e5 := span_ok r n1 n2 h2 pq xc xs
  exact sspan_w e1 e2 e3 e4 rfl e5
end
end LW
namespace LW
open PySem PL L2
/-! the law's span -/
theorem ly_c1 {R P X : D} {n h a : Int} {z : Bool} {s4 s5 : SV} (e1 : FP__law_sh_possible [.val R, .val (.int n), .val (.int h), .val (.int a)] = .ok (.val X) [.none, .none, .none, .none]) (e2 : FP__law_fr_less [.val P, .val X] = .ok (.val (.bl (!z))) [.none, .none]) : (tNotM (eTru (eCallL [false, false] 2 FP__law_fr_less (aCons (aRefV 3) (aCons (aVal (eCallL [false, false, false, false] 4 FP__law_sh_possible (aCons (aRefV 0) (aCons (aRefV 1) (aCons (aRefV 2) (aCons (aRefV 6) (aNil))))))) (aNil)))))) (EY R P n h s4 s5 (.val (.int a))) = .ok z (EY R P n h s4 s5 (.val (.int a))) := by
  cases z <;> simp only [Bool.not_true, Bool.not_false] at e2 <;> simp (disch := omega) [envOf, mulOk_l, mulOk_r, fits_of, dTru, e1, e2]
theorem ly_c2 {R P : D} {n h a : Int} {z : Bool} {s4 s5 : SV} (e : FP__law_sh_is_sure [.val R, .val (.int n), .val (.int h), .val (.int a), .val P] = .ok (.val (.bl z)) [.none, .none, .none, .none, .none]) : (eTru (eCallL [false, false, false, false, false] 5 FP__law_sh_is_sure (aCons (aRefV 0) (aCons (aRefV 1) (aCons (aRefV 2) (aCons (aRefV 6) (aCons (aRefV 3) (aNil)))))))) (EY R P n h s4 s5 (.val (.int a))) = .ok z (EY R P n h s4 s5 (.val (.int a))) := by
  cases z <;> simp (disch := omega) [envOf, mulOk_l, mulOk_r, fits_of, dTru, e]
theorem ly_src {R P : D} {n h : Int} {A : List D} {s4 s5 s6 : SV} (rg : rng2 [.int 1, .int (h + 1)] = some A) : (iRng rng2 (eCons (eC (.int (1))) (eCons (eOp gAdd (eVar 2) (eC (.int (1)))) (eNil)))) (EY R P n h s4 s5 s6) = .ok A (EY R P n h s4 s5 s6) := by
  simp (disch := omega) [envOf, mulOk_l, mulOk_r, fits_of, dTru, rg]
theorem lmap_D {P : Int → Bool} {h : Nat} : ((List.range' 1 h).filter fun a : Nat => P (a : Int)).map (fun a : Nat => D.int (a : Int)) = (lList P h).map .int := by
  unfold lList
  rw [List.map_map]
  rfl
theorem rng_up1 {h : Nat} (h2 : h ≤ 200) : rng2 [.int 1, .int ((h : Int) + 1)] = some ((List.range' 1 h).map fun j : Nat => D.int (j : Int)) := by
  have := rng_from1 (n := h + 1) (by omega)
  rw [show ((h + 1 : Nat) : Int) = (h : Int) + 1 by omega] at this
  exact this
theorem ly_row2 {R P : D} {n h x y : Int} {C U : List D} (a1 : gAddF (.lst U) (.lst [.int 0]) = some (U ++ [.int 0])) (a2 : gAddF (.lst C) (.lst [.int 0]) = some (C ++ [.int 0])) (m1 : gMax [.lst (U ++ [.int 0])] = some (.int x)) (m2 : gMax [.lst (C ++ [.int 0])] = some (.int y)) : (sRetU (uVal (eTup (eCons (eFn gMax (eCons (eOfF (eOpF gAddF (eVar 5) (eOfF (eLstO (eCons (eC (.int (0))) (eNil)))))) (eNil))) (eCons (eFn gMax (eCons (eOfF (eOpF gAddF (eVar 4) (eOfF (eLstO (eCons (eC (.int (0))) (eNil)))))) (eNil))) (eNil)))))) (EY R P n h (.own false C) (.own false U) .none) = .ok (.ret (.val (.tup [.int x, .int y]))) (EY R P n h (.val (.lst C)) (.val (.lst U)) .none) := by
  generalize U ++ [.int 0] = A at *
  generalize C ++ [.int 0] = B at *
  simp (disch := omega) [envOf, mulOk_l, mulOk_r, fits_of, dTru, a1, a2, m1, m2]
theorem add0 {L : List Int} (hz : L.length ≤ 1000) : gAddF (.lst (L.map .int)) (.lst [.int 0]) = some (L.map D.int ++ [.int 0]) := by
  have fz : fits ((L.map D.int).length + [D.int 0].length) = true := fits_of (by rw [List.length_map]; simp; omega)
  show (if fits _ = true then some (_ ++ _) else none) = _
  rw [if_pos fz]
theorem snoc0 {L : List Int} : L.map D.int ++ [.int 0] = (L ++ [0]).map .int := by rw [List.map_append]; rfl
section
variable {t d n p q : Int} {h : Nat}
theorem lspan_ok (r : RB t d) (n1 : 2 ≤ n) (n2 : n ≤ 10) (h2 : h ≤ 200) (pq : PQ p q) {mc ms : Nat} (xc : MX (canP t d n h p q) h mc) (xs : MX (sureP t d n h p q) h ms) : FP__law_seat_span [.val (fr t d), .val (.int n), .val (.int (h : Int)), .val (fr p q)] = .ok (.val (.tup [.int (ms : Int), .int (mc : Int)])) [.none, .none, .none, .none] := by
  have nb : ∀ a : Nat, a ∈ List.range' 1 h → NB n h a := fun a ha => by have := List.mem_range'_1.mp ha; exact ⟨n1, n2, by omega, by omega, by omega⟩
  obtain ⟨c1, c2⟩ := mx_l xc
  obtain ⟨s1, s2⟩ := mx_l xs
  have len : ∀ P : Int → Bool, (lList P h).length ≤ 1000 := fun P => by
    unfold lList
    rw [List.length_map]
    have := List.length_filter_le (fun a : Nat => P (a : Int)) (List.range' 1 h)
    rw [List.length_range'] at this
    omega
  have lc1 : (eLc (iRng rng2 (eCons (eC (.int (1))) (eCons (eOp gAdd (eVar 2) (eC (.int (1)))) (eNil)))) [6] (.nm 6) (tNotM (eTru (eCallL [false, false] 2 FP__law_fr_less (aCons (aRefV 3) (aCons (aVal (eCallL [false, false, false, false] 4 FP__law_sh_possible (aCons (aRefV 0) (aCons (aRefV 1) (aCons (aRefV 2) (aCons (aRefV 6) (aNil))))))) (aNil)))))) (eVar 6)) (EY (fr t d) (fr p q) n h .none .none .none) = .ok ((lList (canP t d n h p q) h).map .int) (EY (fr t d) (fr p q) n h .none .none .none) := by
    rw [← lmap_D]
    refine eLc_filter (fun a : Nat => canP t d n h p q (a : Int)) (fun a : Nat => D.int (a : Int)) (fun a : Nat => D.int (a : Int)) (List.range' 1 h) (ly_src (rng_up1 h2)) (by rw [List.length_range']; omega) fun a ha => ⟨EY (fr t d) (fr p q) n h .none .none (.val (.int (a : Int))), EY (fr t d) (fr p q) n h .none .none (.val (.int (a : Int))), EY (fr t d) (fr p q) n h .none .none (.val (.int (a : Int))), rfl, ly_c1 (X := frac (pT t d a) (pB t d n h)) (law_poss_ok r (nb a ha)) ?_, fun _ => rfl, by rw [ite_self]; rfl⟩
    have b1 := pT_bd r (nb a ha)
    have b2 := pB_bd r (nb a ha)
    have e := less_fr pq.fs (show FS (pT t d a) (pB t d n h) from ⟨by omega, by omega, by omega⟩)
    rw [pq.fr] at e
    rw [e]
    unfold canP
    rw [← decide_not]
    simp only [Int.not_le]
  have lc2 : ∀ s4 : SV, s4 = .own false ((lList (canP t d n h p q) h).map .int) → (eLc (iRng rng2 (eCons (eC (.int (1))) (eCons (eOp gAdd (eVar 2) (eC (.int (1)))) (eNil)))) [6] (.nm 6) (eTru (eCallL [false, false, false, false, false] 5 FP__law_sh_is_sure (aCons (aRefV 0) (aCons (aRefV 1) (aCons (aRefV 2) (aCons (aRefV 6) (aCons (aRefV 3) (aNil)))))))) (eVar 6)) (EY (fr t d) (fr p q) n h s4 .none .none) = .ok ((lList (sureP t d n h p q) h).map .int) (EY (fr t d) (fr p q) n h s4 .none .none) := fun s4 h4 => by
    subst h4
    rw [← lmap_D (P := sureP t d n h p q)]
    refine eLc_filter (fun a : Nat => sureP t d n h p q (a : Int)) (fun a : Nat => D.int (a : Int)) (fun a : Nat => D.int (a : Int)) (List.range' 1 h) (ly_src (rng_up1 h2)) (by rw [List.length_range']; omega) fun a ha => ⟨EY (fr t d) (fr p q) n h (.own false ((lList (canP t d n h p q) h).map .int)) .none (.val (.int (a : Int))), EY (fr t d) (fr p q) n h (.own false ((lList (canP t d n h p q) h).map .int)) .none (.val (.int (a : Int))), EY (fr t d) (fr p q) n h (.own false ((lList (canP t d n h p q) h).map .int)) .none (.val (.int (a : Int))), rfl, ly_c2 ?_, fun _ => rfl, by rw [ite_self]; rfl⟩
    have k := nb a ha
    have b1 := pT_bd r k
    have b2 := sB_bd r k
    have fs : FS (pT t d a) (sB t d n h a) := ⟨by omega, by omega, by omega⟩
    have e1 := less_fr fs pq.fs
    have e2 := gEq_frac fs pq.fs
    rw [pq.fr] at e1 e2
    exact lissure_ok (law_bound_ok r k) e1 e2
  have r0 : (sSetO 4 (eLc (iRng rng2 (eCons (eC (.int (1))) (eCons (eOp gAdd (eVar 2) (eC (.int (1)))) (eNil)))) [6] (.nm 6) (tNotM (eTru (eCallL [false, false] 2 FP__law_fr_less (aCons (aRefV 3) (aCons (aVal (eCallL [false, false, false, false] 4 FP__law_sh_possible (aCons (aRefV 0) (aCons (aRefV 1) (aCons (aRefV 2) (aCons (aRefV 6) (aNil))))))) (aNil)))))) (eVar 6))) (EY (fr t d) (fr p q) n h .none .none .none) = .ok .next (EY (fr t d) (fr p q) n h (.own false ((lList (canP t d n h p q) h).map .int)) .none .none) := by
    unfold sSetO
    rw [bnd_ok lc1]
    rfl
  have r1 : (sSetO 5 (eLc (iRng rng2 (eCons (eC (.int (1))) (eCons (eOp gAdd (eVar 2) (eC (.int (1)))) (eNil)))) [6] (.nm 6) (eTru (eCallL [false, false, false, false, false] 5 FP__law_sh_is_sure (aCons (aRefV 0) (aCons (aRefV 1) (aCons (aRefV 2) (aCons (aRefV 6) (aCons (aRefV 3) (aNil)))))))) (eVar 6))) (EY (fr t d) (fr p q) n h (.own false ((lList (canP t d n h p q) h).map .int)) .none .none) = .ok .next (EY (fr t d) (fr p q) n h (.own false ((lList (canP t d n h p q) h).map .int)) (.own false ((lList (sureP t d n h p q) h).map .int)) .none) := by
    unfold sSetO
    rw [bnd_ok (lc2 _ rfl)]
    rfl
  have r2 := ly_row2 (R := fr t d) (P := fr p q) (n := n) (h := (h : Int)) (add0 (len (sureP t d n h p q))) (add0 (len (canP t d n h p q))) (by rw [snoc0]; exact gMax_list s2) (by rw [snoc0]; exact gMax_list c2)
  rw [s1, c1] at r2
  unfold FP__law_seat_span BP__law_seat_span
  exact (congrArg (finF [.val (fr t d), .val (.int n), .val (.int (h : Int)), .val (fr p q)]) (seq_nx r0 (seq_nx r1 (seq_rt r2)))).trans rfl
end
/-! the least house -/
def hseP (t d n a p q : Int) (h : Int) : Bool := decide (pT t d a * q ≤ p * pB t d n h)
abbrev EH (W P : D) (n a : Int) (s4 : SV) : PL.Env := [.val W, .val (.int n), .val P, .val (.int a), s4]
theorem hf_y {W R X P : D} {n a h : Int} (g : gIx W (.int 1) = some R) (e1 : FP_possible_in [.val R, .val (.int n), .val (.int h), .val (.int a)] = .ok (.val X) [.none, .none, .none, .none]) (e2 : FP_is_at_most [.val X, .val P] = .ok (.val (.bl true)) [.none, .none]) : (sSeq (sIf (eTru (eCallL [false, false] 2 FP_is_at_most (aCons (aVal (eCallL [false, false, false, false] 4 FP_possible_in (aCons (aVal (eIxB 0 (eC (.int (1))))) (aCons (aRefV 1) (aCons (aRefV 4) (aCons (aRefV 3) (aNil))))))) (aCons (aRefV 2) (aNil))))) (sSeq (sRetV 4) (PL.ret .next)) (PL.ret .next)) (PL.ret .next)) (EH W P n a (.val (.int h))) = .ok (.ret (.val (.int h))) (EH W P n a (.val (.int h))) := by
  simp (disch := omega) [envOf, mulOk_l, mulOk_r, fits_of, dTru, g, e1, e2]
theorem hf_n {W R X P : D} {n a h : Int} (g : gIx W (.int 1) = some R) (e1 : FP_possible_in [.val R, .val (.int n), .val (.int h), .val (.int a)] = .ok (.val X) [.none, .none, .none, .none]) (e2 : FP_is_at_most [.val X, .val P] = .ok (.val (.bl false)) [.none, .none]) : (sSeq (sIf (eTru (eCallL [false, false] 2 FP_is_at_most (aCons (aVal (eCallL [false, false, false, false] 4 FP_possible_in (aCons (aVal (eIxB 0 (eC (.int (1))))) (aCons (aRefV 1) (aCons (aRefV 4) (aCons (aRefV 3) (aNil))))))) (aCons (aRefV 2) (aNil))))) (sSeq (sRetV 4) (PL.ret .next)) (PL.ret .next)) (PL.ret .next)) (EH W P n a (.val (.int h))) = .ok .next (EH W P n a (.val (.int h))) := by
  simp (disch := omega) [envOf, mulOk_l, mulOk_r, fits_of, dTru, g, e1, e2]
theorem hf_loop {t d n a p q : Int} (r : RB t d) (n1 : 2 ≤ n) (n2 : n ≤ 10) (a1 : 1 ≤ a) (pq : PQ p q) : ∀ (ks : List Nat) (s4 : SV), (∀ k ∈ ks, a ≤ (k : Int) ∧ k ≤ 200) →
    ∃ t4, forL (.nm 4) (sSeq (sIf (eTru (eCallL [false, false] 2 FP_is_at_most (aCons (aVal (eCallL [false, false, false, false] 4 FP_possible_in (aCons (aVal (eIxB 0 (eC (.int (1))))) (aCons (aRefV 1) (aCons (aRefV 4) (aCons (aRefV 3) (aNil))))))) (aCons (aRefV 2) (aNil))))) (sSeq (sRetV 4) (PL.ret .next)) (PL.ret .next)) (PL.ret .next)) (natD ks) (EH (wyD (.st t d)) (fr p q) n a s4) = (match ks.filter fun k : Nat => hseP t d n a p q (k : Int) with
      | [] => .ok .next (EH (wyD (.st t d)) (fr p q) n a t4)
      | k :: _ => .ok (.ret (.val (.int (k : Int)))) (EH (wyD (.st t d)) (fr p q) n a t4))
  | [], s4, _ => ⟨s4, rfl⟩
  | k :: ks, s4, hk => by
    have k0 := hk k (List.mem_cons_self ..)
    have nb : NB n (k : Int) a := ⟨n1, n2, by omega, a1, k0.1⟩
    have b1 := pT_bd r nb
    have b2 := pB_bd r nb
    have e := atmost_fr (show FS (pT t d a) (pB t d n k) from ⟨by omega, by omega, by omega⟩) pq.fs
    rw [pq.fr] at e
    cases c : hseP t d n a p q (k : Int) with
    | true =>
      refine ⟨.val (.int (k : Int)), ?_⟩
      have fc : (k :: ks).filter (fun k : Nat => hseP t d n a p q (k : Int)) = k :: ks.filter (fun k : Nat => hseP t d n a p q (k : Int)) := List.filter_cons_of_pos c
      rw [fc]
      have c' : decide (pT t d a * q ≤ p * pB t d n k) = true := c
      rw [c'] at e
      exact forL_rt (env1 := EH (wyD (.st t d)) (fr p q) n a (.val (.int (k : Int)))) rfl (hf_y rfl (poss_ok r nb) e)
    | false =>
      obtain ⟨t4, g⟩ := hf_loop r n1 n2 a1 pq ks (.val (.int (k : Int))) fun x hx => hk x (List.mem_cons_of_mem _ hx)
      refine ⟨t4, ?_⟩
      have fc : (k :: ks).filter (fun k : Nat => hseP t d n a p q (k : Int)) = ks.filter (fun k : Nat => hseP t d n a p q (k : Int)) := List.filter_cons_of_neg (by rw [c]; decide)
      rw [fc]
      have c' : decide (pT t d a * q ≤ p * pB t d n k) = false := c
      rw [c'] at e
      exact (forL_nx (env1 := EH (wyD (.st t d)) (fr p q) n a (.val (.int (k : Int)))) rfl (hf_n rfl (poss_ok r nb) e)).trans g
theorem rng_from {a : Nat} (h : a ≤ 200) : rng2 [.int (a : Int), .int 201] = some (natD (List.range' a (201 - a))) := by
  rw [rng2_natM (by omega) (by omega) (by decide) (by decide), rngL_range, show ((201 : Int) - (a : Int)).toNat = 201 - a by omega]
  rfl
theorem hf_pre {W P : D} {n a : Int} {A : List D} {R : R O} (e1 : FP_require_step_way [.val W] = .ok (.val .non) [.none]) (e2 : FP_require_number [.val (.int n), .val (.int 2), .val (.int 10)] = .ok (.val .non) [.none, .none, .none]) (e3 : FP_require_part [.val P] = .ok (.val .non) [.none]) (e4 : FP_require_number [.val (.int a), .val (.int 1), .val (.int 200)] = .ok (.val .non) [.none, .none, .none]) (rg : rng2 [.int a, .int 201] = some A) (g : (sSeq (sFor (iRng rng2 (eCons (eVar 3) (eCons (eOp gAdd (eC (.int (200))) (eC (.int (1)))) (eNil)))) (.nm 4) (sSeq (sIf (eTru (eCallL [false, false] 2 FP_is_at_most (aCons (aVal (eCallL [false, false, false, false] 4 FP_possible_in (aCons (aVal (eIxB 0 (eC (.int (1))))) (aCons (aRefV 1) (aCons (aRefV 4) (aCons (aRefV 3) (aNil))))))) (aCons (aRefV 2) (aNil))))) (sSeq (sRetV 4) (PL.ret .next)) (PL.ret .next)) (PL.ret .next))) (sSeq (sRaise1 "Refused" (eTup (eCons (eC (.str "none")) (eNil)))) (PL.ret .next))) (EH W P n a .none) = R) : FP_house_from [.val W, .val (.int n), .val P, .val (.int a)] = finF [.val W, .val (.int n), .val P, .val (.int a)] R := by
  have r0 : (sExpr (eCallL [false] 1 FP_require_step_way (aCons (aRefV 0) (aNil)))) (EH W P n a .none) = .ok .next (EH W P n a .none) := by simp (disch := omega) [envOf, mulOk_l, mulOk_r, fits_of, dTru, e1]
  have r1 : (sExpr (eCallL [false, false, false] 3 FP_require_number (aCons (aRefV 1) (aCons (aVal (eC (.int (2)))) (aCons (aVal (eC (.int (10)))) (aNil)))))) (EH W P n a .none) = .ok .next (EH W P n a .none) := by simp (disch := omega) [envOf, mulOk_l, mulOk_r, fits_of, dTru, e2]
  have r2 : (sExpr (eCallL [false] 1 FP_require_part (aCons (aRefV 2) (aNil)))) (EH W P n a .none) = .ok .next (EH W P n a .none) := by simp (disch := omega) [envOf, mulOk_l, mulOk_r, fits_of, dTru, e3]
  have r3 : (sExpr (eCallL [false, false, false] 3 FP_require_number (aCons (aRefV 3) (aCons (aVal (eC (.int (1)))) (aCons (aVal (eC (.int (200)))) (aNil)))))) (EH W P n a .none) = .ok .next (EH W P n a .none) := by simp (disch := omega) [envOf, mulOk_l, mulOk_r, fits_of, dTru, e4]
  unfold FP_house_from BP_house_from
  exact congrArg (finF [.val W, .val (.int n), .val P, .val (.int a)]) (seq_nx r0 (seq_nx r1 (seq_nx r2 (seq_nx r3 g))))
def hseL (t d n p q : Int) (a : Nat) : List Nat := (List.range' a (201 - a)).filter fun k : Nat => hseP t d n a p q (k : Int)
theorem hf_src {W P : D} {n a : Int} {A : List D} (rg : rng2 [.int a, .int 201] = some A) : (iRng rng2 (eCons (eVar 3) (eCons (eOp gAdd (eC (.int (200))) (eC (.int (1)))) (eNil)))) (EH W P n a .none) = .ok A (EH W P n a .none) := by
  simp (disch := omega) [envOf, mulOk_l, mulOk_r, fits_of, dTru, rg]
theorem hf_some {t d n p q : Int} {a : Nat} (r : RB t d) (n1 : 2 ≤ n) (n2 : n ≤ 10) (a1 : 1 ≤ a) (a2 : a ≤ 200) (pq : PQ p q) {k : Nat} {ks : List Nat} (hl : hseL t d n p q a = k :: ks) : FP_house_from [.val (wyD (.st t d)), .val (.int n), .val (fr p q), .val (.int (a : Int))] = .ok (.val (.int (k : Int))) [.none, .none, .none, .none] := by
  obtain ⟨t4, g⟩ := hf_loop (a := (a : Int)) r n1 n2 (by omega) pq (List.range' a (201 - a)) .none fun k hk => by have := List.mem_range'_1.mp hk; omega
  unfold hseL at hl
  rw [hl] at g
  have rg := rng_from a2
  have lp : sFor (iRng rng2 (eCons (eVar 3) (eCons (eOp gAdd (eC (.int (200))) (eC (.int (1)))) (eNil)))) (.nm 4) (sSeq (sIf (eTru (eCallL [false, false] 2 FP_is_at_most (aCons (aVal (eCallL [false, false, false, false] 4 FP_possible_in (aCons (aVal (eIxB 0 (eC (.int (1))))) (aCons (aRefV 1) (aCons (aRefV 4) (aCons (aRefV 3) (aNil))))))) (aCons (aRefV 2) (aNil))))) (sSeq (sRetV 4) (PL.ret .next)) (PL.ret .next)) (PL.ret .next)) (EH (wyD (.st t d)) (fr p q) n (a : Int) .none) = .ok (.ret (.val (.int (k : Int)))) (EH (wyD (.st t d)) (fr p q) n (a : Int) t4) := sFor_of (hf_src rg) g
  have x := hf_pre (R := .ok (.ret (.val (.int (k : Int)))) (EH (wyD (.st t d)) (fr p q) n (a : Int) t4)) (rstep_ok r) (req_number_ok n1 n2 (by decide) (by decide)) (rpart_ok pq) (req_number_ok (x := (a : Int)) (a := 1) (b := 200) (by omega) (by omega) (by decide) (by decide)) rg (seq_rt lp)
  exact x.trans rfl
theorem hf_none {t d n p q : Int} {a : Nat} (r : RB t d) (n1 : 2 ≤ n) (n2 : n ≤ 10) (a1 : 1 ≤ a) (a2 : a ≤ 200) (pq : PQ p q) (hl : hseL t d n p q a = []) : FP_house_from [.val (wyD (.st t d)), .val (.int n), .val (fr p q), .val (.int (a : Int))] = .exc ⟨"Refused", some (.tup [.str "none"])⟩ [.none, .none, .none, .none] := by
  obtain ⟨t4, g⟩ := hf_loop (a := (a : Int)) r n1 n2 (by omega) pq (List.range' a (201 - a)) .none fun k hk => by have := List.mem_range'_1.mp hk; omega
  unfold hseL at hl
  rw [hl] at g
  have rg := rng_from a2
  have lp : sFor (iRng rng2 (eCons (eVar 3) (eCons (eOp gAdd (eC (.int (200))) (eC (.int (1)))) (eNil)))) (.nm 4) (sSeq (sIf (eTru (eCallL [false, false] 2 FP_is_at_most (aCons (aVal (eCallL [false, false, false, false] 4 FP_possible_in (aCons (aVal (eIxB 0 (eC (.int (1))))) (aCons (aRefV 1) (aCons (aRefV 4) (aCons (aRefV 3) (aNil))))))) (aCons (aRefV 2) (aNil))))) (sSeq (sRetV 4) (PL.ret .next)) (PL.ret .next)) (PL.ret .next)) (EH (wyD (.st t d)) (fr p q) n (a : Int) .none) = .ok .next (EH (wyD (.st t d)) (fr p q) n (a : Int) t4) := sFor_of (hf_src rg) g
  have x := hf_pre (R := .exc ⟨"Refused", some (.tup [.str "none"])⟩ (EH (wyD (.st t d)) (fr p q) n (a : Int) t4)) (rstep_ok r) (req_number_ok n1 n2 (by decide) (by decide)) (rpart_ok pq) (req_number_ok (x := (a : Int)) (a := 1) (b := 200) (by omega) (by omega) (by decide) (by decide)) rg (seq_nx lp rfl)
  exact x.trans rfl
theorem met_x {W P : D} {n a : Int} (q : FP_house_from [.val W, .val (.int n), .val P, .val (.int a)] = .exc ⟨"Refused", some (.tup [.str "none"])⟩ [.none, .none, .none, .none]) : FP__law_met [.val W, .val (.int n), .val P, .val (.int a)] = .ok (.val (.tup [.str "none"])) [.none, .none, .none, .none] := by
  have b : (sSeq (sRetU (uCallL [false, false, false, false] 4 FP_house_from (aCons (aRefV 0) (aCons (aRefV 1) (aCons (aRefV 2) (aCons (aRefV 3) (aNil))))))) (PL.ret .next)) [.val W, .val (.int n), .val P, .val (.int a), .none] = .exc ⟨"Refused", some (.tup [.str "none"])⟩ [.val W, .val (.int n), .val P, .val (.int a), .none] := by simp (disch := omega) [envOf, mulOk_l, mulOk_r, fits_of, dTru, q]
  have m : (metOf (xmF GP43) (fldF GP43) [("Refused", .raw "reason")]) ⟨"Refused", some (.tup [.str "none"])⟩ = some (.tup [.str "none"]) := by kernel_rfl
  unfold FP__law_met BP__law_met
  exact (congrArg (finF [.val W, .val (.int n), .val P, .val (.int a)]) (seq_rt (try_x b m (by simp)))).trans rfl
theorem met_o {W P A : D} {n a : Int} (q : FP_house_from [.val W, .val (.int n), .val P, .val (.int a)] = .ok (.val A) [.none, .none, .none, .none]) : FP__law_met [.val W, .val (.int n), .val P, .val (.int a)] = .ok (.val A) [.none, .none, .none, .none] := by
  have b : (sSeq (sRetU (uCallL [false, false, false, false] 4 FP_house_from (aCons (aRefV 0) (aCons (aRefV 1) (aCons (aRefV 2) (aCons (aRefV 3) (aNil))))))) (PL.ret .next)) [.val W, .val (.int n), .val P, .val (.int a), .none] = .ok (.ret (.val A)) [.val W, .val (.int n), .val P, .val (.int a), .none] := by simp (disch := omega) [envOf, mulOk_l, mulOk_r, fits_of, dTru, q]
  unfold FP__law_met BP__law_met
  exact (congrArg (finF [.val W, .val (.int n), .val P, .val (.int a)]) (seq_rt (try_ok b))).trans rfl
/-! a share asked at no seat: any answer -/
theorem square_m1 {t d : Int} (r : RB t d) : FP__law_square [.val (wyD (.st t d)), .val (.int (-1))] = .ok (.val (frac ((-d + t) * (-d + t)) (d * d))) [.none, .none] := by
  have r1 := r.t1; have r2 := r.t2; have r3 := r.d2
  have dd := bd_mul (show 0 ≤ d by omega) r3 (show 0 ≤ d by omega) r3
  have dp : 0 < d * d := Int.mul_pos (by omega) (by omega)
  have f := law_fraction_ok (t := (-d + t) * (-d + t)) (b := d * d) dp (big8 (by omega))
  generalize hF : frac ((-d + t) * (-d + t)) (d * d) = F at *
  unfold FP__law_square BP__law_square
  have m2 : mulOk (-d + t) (-d + t) = true := mulOk_l (by omega)
  have m3 : mulOk d d = true := mulOk_l (by omega)
  simp (disch := omega) [envOf, mulOk_l, mulOk_r, fits_of, dTru, N__law_square, wyD, f, m2, m3]
theorem cmp_m1 {t d : Int} (r : RB t d) {v u : Int} (v0 : 0 ≤ v) (v2 : v ≤ 1000000000) (u0 : 0 ≤ u) (u2 : u ≤ 1000000000) (k : Nat) (hk : k < 300) : ∃ z : Int, FP__law_compared [.val (wyD (.st t d)), .val (.int v), .val (.int (k : Int)), .val (.int u), .val (.int (-1))] = .ok (.val (.int z)) [.none, .none, .none, .none, .none] := by
  have r1 := r.t1; have r2 := r.t2; have r3 := r.d2
  have f1 := law_square_ok (w := .st t d) r (k := (k : Int)) (by omega) (by omega)
  have f2 := square_m1 r
  obtain ⟨s1, s2, s3, s4⟩ := sq_bds (w := .st t d) r (k := (k : Int)) (by omega) (by omega)
  have q0 : (-d + t) * (-d + t) = (d - t) * (d - t) := by grind
  have q1 := bd_mul (show 0 ≤ d - t by omega) (show d - t ≤ 1000 by omega) (show 0 ≤ d - t by omega) (show d - t ≤ 1000 by omega)
  have t1 := topLe (b := sqB (.st t d) k) s1
  have t3 := top_nn (b := sqB (.st t d) k) (by omega) s1
  have t2 := topLe (t := (-d + t) * (-d + t)) (b := d * d) (by omega)
  have t4 := top_nn (t := (-d + t) * (-d + t)) (b := d * d) (Int.mul_pos (by omega) (by omega)) (by omega)
  have vv := bd_mul v0 v2 v0 v2
  have uu := bd_mul u0 u2 u0 u2
  exact ⟨_, law_cmp_walk (F := .non) (G := .non) (v := v) (u := u) f1 f2 (by omega) (by omega) (by omega) (by omega) (by omega) (by omega)⟩
theorem sure0_ok {t d : Int} (r : RB t d) {vs : List Int} (hv : VV vs) {h : Int} : ∃ z : Bool, FP__law_sh_sure [.val (wyD (.st t d)), .val (.int h), .val (.int 0), .val (tv vs)] = .ok (.val (.bl z)) [.none, .none, .none, .none] := by
  have n1 := hv.n1
  have v0 := hv.vat (j := 0) (by omega)
  have body : ∀ (j : Nat) (f : Int), j < vs.length → ∃ f', (sSeq (sSetU 4 (uVal (eOp gAdd (eVar 4) (eFn gLen (eCons (eOfF (eLc (iRng rng1 (eCons (eC (.int (300))) (eNil))) [6] (.nm 6) (eTB (eOp gGe (eCallL [false, false, false, false, false] 5 FP__law_compared (aCons (aRefV 0) (aCons (aRefV 5) (aCons (aRefV 6) (aCons (aVal (eIxB 1 (eC (.int (0))))) (aCons (aVal (eOp gSub (eVar 2) (eC (.int (1))))) (aNil))))))) (eVar 3))) (eVar 6))) (eNil)))))) (PL.ret .next)) (ES8 (wyD (.st t d)) (tv vs) 0 0 (.val (.int f)) (.val (.int (vAt vs j))) .none) = .ok .next (ES8 (wyD (.st t d)) (tv vs) 0 0 (.val (.int f')) (.val (.int (vAt vs j))) .none) := fun j f hj => by
    have vj := hv.vat hj
    obtain ⟨zf, hz⟩ := Classical.skolem.mp (fun k : Nat => (show ∃ z : Int, k < 300 → FP__law_compared [.val (wyD (.st t d)), .val (.int (vAt vs j)), .val (.int (k : Int)), .val (.int (vAt vs 0)), .val (.int (-1))] = .ok (.val (.int z)) [.none, .none, .none, .none, .none] by
      by_cases q : k < 300
      · obtain ⟨z, e⟩ := cmp_m1 r (v := vAt vs j) (u := vAt vs 0) (by omega) (by omega) (by omega) (by omega) k q
        exact ⟨z, fun _ => e⟩
      · exact ⟨0, fun x => absurd x q⟩))
    have lc : (eLc (iRng rng1 (eCons (eC (.int (300))) (eNil))) [6] (.nm 6) (eTB (eOp gGe (eCallL [false, false, false, false, false] 5 FP__law_compared (aCons (aRefV 0) (aCons (aRefV 5) (aCons (aRefV 6) (aCons (aVal (eIxB 1 (eC (.int (0))))) (aCons (aVal (eOp gSub (eVar 2) (eC (.int (1))))) (aNil))))))) (eVar 3))) (eVar 6)) (ES8 (wyD (.st t d)) (tv vs) 0 0 (.val (.int f)) (.val (.int (vAt vs j))) .none) = .ok (((List.range 300).filter fun k : Nat => decide (0 ≤ zf k)).map fun k : Nat => D.int (k : Int)) (ES8 (wyD (.st t d)) (tv vs) 0 0 (.val (.int f)) (.val (.int (vAt vs j))) .none) :=
      eLc_filter (fun k : Nat => decide (0 ≤ zf k)) (fun k : Nat => D.int (k : Int)) (fun k : Nat => D.int (k : Int)) (List.range 300) by_src (by rw [List.length_range]; decide) fun k hk => ⟨ES8 (wyD (.st t d)) (tv vs) 0 0 (.val (.int f)) (.val (.int (vAt vs j))) (.val (.int (k : Int))), _, ES8 (wyD (.st t d)) (tv vs) 0 0 (.val (.int f)) (.val (.int (vAt vs j))) (.val (.int (k : Int))), rfl, by_c (tv_at (vs := vs) (j := 0) (by omega)) (hz k (List.mem_range.mp hk)), fun _ => rfl, by rw [ite_self]; rfl⟩
    have hl : ∀ A : List D, gLen [.lst A] = some (.int (A.length : Nat)) := fun A => rfl
    refine ⟨f + ((((List.range 300).filter fun k : Nat => decide (0 ≤ zf k)).map fun k : Nat => D.int (k : Int)).length : Nat), ?_⟩
    generalize (((List.range 300).filter fun k : Nat => decide (0 ≤ zf k)).map fun k : Nat => D.int (k : Int)) = A at *
    have hA := hl A
    generalize ((A.length : Nat) : Int) = z at *
    generalize (eLc (iRng rng1 (eCons (eC (.int (300))) (eNil))) [6] (.nm 6) (eTB (eOp gGe (eCallL [false, false, false, false, false] 5 FP__law_compared (aCons (aRefV 0) (aCons (aRefV 5) (aCons (aRefV 6) (aCons (aVal (eIxB 1 (eC (.int (0))))) (aCons (aVal (eOp gSub (eVar 2) (eC (.int (1))))) (aNil))))))) (eVar 3))) (eVar 6)) = MM at *
    simp (disch := omega) [envOf, mulOk_l, mulOk_r, fits_of, dTru, lc, hA]
  have loop : ∀ (ks : List Nat) (f : Int) (s5 : SV), (∀ k ∈ ks, k < vs.length) → ∃ f' t5, forL (.nm 5) (sSeq (sSetU 4 (uVal (eOp gAdd (eVar 4) (eFn gLen (eCons (eOfF (eLc (iRng rng1 (eCons (eC (.int (300))) (eNil))) [6] (.nm 6) (eTB (eOp gGe (eCallL [false, false, false, false, false] 5 FP__law_compared (aCons (aRefV 0) (aCons (aRefV 5) (aCons (aRefV 6) (aCons (aVal (eIxB 1 (eC (.int (0))))) (aCons (aVal (eOp gSub (eVar 2) (eC (.int (1))))) (aNil))))))) (eVar 3))) (eVar 6))) (eNil)))))) (PL.ret .next)) (ks.map fun k => D.int (vAt vs k)) (ES8 (wyD (.st t d)) (tv vs) 0 0 (.val (.int f)) s5 .none) = .ok .next (ES8 (wyD (.st t d)) (tv vs) 0 0 (.val (.int f')) t5 .none) := fun ks => by
    induction ks with
    | nil => exact fun f s5 _ => ⟨f, s5, rfl⟩
    | cons k ks ih =>
      intro f s5 hk
      obtain ⟨f1, y⟩ := body k f (hk k (List.mem_cons_self ..))
      obtain ⟨f2, t5, g⟩ := ih f1 (.val (.int (vAt vs k))) fun x hx => hk x (List.mem_cons_of_mem _ hx)
      refine ⟨f2, t5, ?_⟩
      rw [List.map_cons]
      exact (forL_nx (env1 := ES8 (wyD (.st t d)) (tv vs) 0 0 (.val (.int f)) (.val (.int (vAt vs k))) .none) rfl y).trans g
  obtain ⟨f', t5, g⟩ := loop (List.range' 1 (vs.length - 1)) 0 .none fun k hk => (oth_mem hk).2
  have e := by_walk (drop1 n1 hv.n2) rfl g
  refine ⟨decide (0 + f' ≤ h), ?_⟩
  generalize wyD (.st t d) = W at *
  generalize tv vs = V at *
  unfold FP__law_sh_sure BP__law_sh_sure
  simp (disch := omega) [envOf, mulOk_l, mulOk_r, fits_of, dTru, N__law_sh_sure, e]
end LW
namespace LW
open PySem PL L2
/-! rows -/
abbrev E52 (l b c : Int) (s1 s2 s3 s4 s5 s6 s7 s8 s9 s10 s11 s12 s13 s14 : SV) : PL.Env := [dc l b c, s1, s2, s3, s4, s5, s6, s7, s8, s9, s10, s11, s12, s13, s14, .none, .none]
theorem w_0 {l b c l1 c1 l2 c2 x : Int} {W : D} (e1 : FP__law_step_way [dc l b c] = .ok (.val W) [dc l1 b c1]) (e2 : FP__law_roll [dc l1 b c1, .val (.int 9)] = .ok (.val (.int x)) [dc l2 b c2, .none]) : (sAsgU [(.nm 9), (.nm 10)] (uCons (uCall 1 FP__law_step_way (aCons (aRefV 0) (aNil))) (uCons (uVal (eOp gAdd (eC (.int (2))) (eCall 2 FP__law_roll (aCons (aRefV 0) (aCons (aVal (eC (.int (9)))) (aNil)))))) (uNil)))) (E52 l b c .none .none .none .none .none .none .none .none .none .none .none .none .none .none) = .ok .next (E52 l2 b c2 .none .none .none .none .none .none .none .none (.val W) (.val (.int (2 + x))) .none .none .none .none) := by
  have u : (uCons (uCall 1 FP__law_step_way (aCons (aRefV 0) (aNil))) (uCons (uVal (eOp gAdd (eC (.int (2))) (eCall 2 FP__law_roll (aCons (aRefV 0) (aCons (aVal (eC (.int (9)))) (aNil)))))) (uNil))) (E52 l b c .none .none .none .none .none .none .none .none .none .none .none .none .none .none) = .ok [.val W, .val (.int (2 + x))] (E52 l2 b c2 .none .none .none .none .none .none .none .none .none .none .none .none .none .none) := by simp (disch := omega) [envOf, mulOk_l, mulOk_r, fits_of, dTru, e1, e2]
  unfold sAsgU
  rw [bnd_ok u]
  rfl
theorem w_1 {l b c l1 c1 l2 c2 m x : Int} {s9 s10 : SV} (e1 : FP__law_pick [dc l b c, .val (.lst [.int 5, .int 12, .int 40])] = .ok (.val (.int m)) [dc l1 b c1, .none]) (e2 : FP__law_roll [dc l1 b c1, .val (.int m)] = .ok (.val (.int x)) [dc l2 b c2, .none]) : (sSetU 1 (uVal (eOp gAdd (eC (.int (1))) (eCall 2 FP__law_roll (aCons (aRefV 0) (aCons (aVal (eCall 2 FP__law_pick (aCons (aRefV 0) (aCons (aVal (eOfF (eLstO (eCons (eC (.int (5))) (eCons (eC (.int (12))) (eCons (eC (.int (40))) (eNil))))))) (aNil))))) (aNil))))))) (E52 l b c .none .none .none .none .none .none .none .none s9 s10 .none .none .none .none) = .ok .next (E52 l2 b c2 (.val (.int (1 + x))) .none .none .none .none .none .none .none s9 s10 .none .none .none .none) := by
  simp (disch := omega) [envOf, mulOk_l, mulOk_r, fits_of, dTru, e1, e2]
theorem w_2 {l b c l1 c1 l2 c2 m x : Int} {s1 s9 s10 : SV} (e1 : FP__law_pick [dc l b c, .val (.lst [.int 8, .int 40, .int 999999])] = .ok (.val (.int m)) [dc l1 b c1, .none]) (e2 : FP__law_roll [dc l1 b c1, .val (.int m)] = .ok (.val (.int x)) [dc l2 b c2, .none]) : (sSetU 2 (uVal (eOp gAdd (eC (.int (2))) (eCall 2 FP__law_roll (aCons (aRefV 0) (aCons (aVal (eCall 2 FP__law_pick (aCons (aRefV 0) (aCons (aVal (eOfF (eLstO (eCons (eC (.int (8))) (eCons (eC (.int (40))) (eCons (eOp gSub (eOp gPow (eC (.int (10))) (eC (.int (6)))) (eC (.int (1)))) (eNil))))))) (aNil))))) (aNil))))))) (E52 l b c s1 .none .none .none .none .none .none .none s9 s10 .none .none .none .none) = .ok .next (E52 l2 b c2 s1 (.val (.int (2 + x))) .none .none .none .none .none .none s9 s10 .none .none .none .none) := by
  have p : gPow (.int 10) (.int 6) = some (.int 1000000) := by kernel_rfl
  simp (disch := omega) [envOf, mulOk_l, mulOk_r, fits_of, dTru, p, e1, e2]
theorem w_3 {l b c l1 c1 B x : Int} {P : D} {s1 s9 s10 : SV} (e1 : FP__law_roll [dc l b c, .val (.int (B - 1))] = .ok (.val (.int x)) [dc l1 b c1, .none]) (e2 : FP__law_fraction [.val (.int (1 + x)), .val (.int B)] = .ok (.val P) [.none, .none]) : (sSetU 3 (uCallL [false, false] 2 FP__law_fraction (aCons (aVal (eOp gAdd (eC (.int (1))) (eCall 2 FP__law_roll (aCons (aRefV 0) (aCons (aVal (eOp gSub (eVar 2) (eC (.int (1))))) (aNil)))))) (aCons (aRefV 2) (aNil))))) (E52 l b c s1 (.val (.int B)) .none .none .none .none .none .none s9 s10 .none .none .none .none) = .ok .next (E52 l1 b c1 s1 (.val (.int B)) (.val P) .none .none .none .none .none s9 s10 .none .none .none .none) := by
  simp (disch := omega) [envOf, mulOk_l, mulOk_r, fits_of, dTru, e1, e2]
theorem w_4n {l b c l1 c1 z : Int} {s1 s2 s3 s9 s10 : SV} (e : FP__law_roll [dc l b c, .val (.int 2)] = .ok (.val (.int z)) [dc l1 b c1, .none]) (hz : z ≠ 0) : (sIf (eTB (eOp gEq (eCall 2 FP__law_roll (aCons (aRefV 0) (aCons (aVal (eC (.int (2)))) (aNil)))) (eC (.int (0))))) (sSeq (sSetU 7 (uVal (eOp gAdd (eC (.int (1))) (eCallL [true, false] 2 FP__law_roll (aCons (aRefV 0) (aCons (aRefV 1) (aNil))))))) (sSeq (sSetU 11 (uCall 2 FP__law_pick (aCons (aRefV 0) (aCons (aVal (eOfF (eLstO (eCons (eCallL [false, false, false, false] 4 FP__law_sh_possible (aCons (aVal (eIxB 9 (eC (.int (1))))) (aCons (aRefV 10) (aCons (aRefV 1) (aCons (aRefV 7) (aNil)))))) (eCons (eCallL [false, false, false, false] 4 FP__law_sh_bound (aCons (aVal (eIxB 9 (eC (.int (1))))) (aCons (aRefV 10) (aCons (aRefV 1) (aCons (aRefV 7) (aNil)))))) (eNil)))))) (aNil))))) (sSeq (sSetU 3 (uVal (eIf (tAndM (eTB (eOp gLe (eIxB 11 (eC (.int (1)))) (eOp gPow (eC (.int (10))) (eC (.int (6)))))) (eTB (eOp gLt (eIxB 11 (eC (.int (0)))) (eIxB 11 (eC (.int (1))))))) (eVar 11) (eVar 3)))) (PL.ret .next)))) (PL.ret .next)) (E52 l b c s1 s2 s3 .none .none .none .none .none s9 s10 .none .none .none .none) = .ok .next (E52 l1 b c1 s1 s2 s3 .none .none .none .none .none s9 s10 .none .none .none .none) := by
  simp (disch := omega) [envOf, mulOk_l, mulOk_r, fits_of, dTru, e, hz]
theorem w_4y {l b c l1 c1 l2 c2 l3 c3 h n x p q : Int} {W R X Y P : D} {s2 : SV} (e : FP__law_roll [dc l b c, .val (.int 2)] = .ok (.val (.int 0)) [dc l1 b c1, .none]) (e2 : FP__law_roll [dc l1 b c1, .val (.int h)] = .ok (.val (.int x)) [dc l2 b c2, .none]) (g : gIx W (.int 1) = some R) (e3 : FP__law_sh_possible [.val R, .val (.int n), .val (.int h), .val (.int (1 + x))] = .ok (.val X) [.none, .none, .none, .none]) (e4 : FP__law_sh_bound [.val R, .val (.int n), .val (.int h), .val (.int (1 + x))] = .ok (.val Y) [.none, .none, .none, .none]) (e5 : FP__law_pick [dc l2 b c2, .val (.lst [X, Y])] = .ok (.val (fr p q)) [dc l3 b c3, .none]) :
    (sIf (eTB (eOp gEq (eCall 2 FP__law_roll (aCons (aRefV 0) (aCons (aVal (eC (.int (2)))) (aNil)))) (eC (.int (0))))) (sSeq (sSetU 7 (uVal (eOp gAdd (eC (.int (1))) (eCallL [true, false] 2 FP__law_roll (aCons (aRefV 0) (aCons (aRefV 1) (aNil))))))) (sSeq (sSetU 11 (uCall 2 FP__law_pick (aCons (aRefV 0) (aCons (aVal (eOfF (eLstO (eCons (eCallL [false, false, false, false] 4 FP__law_sh_possible (aCons (aVal (eIxB 9 (eC (.int (1))))) (aCons (aRefV 10) (aCons (aRefV 1) (aCons (aRefV 7) (aNil)))))) (eCons (eCallL [false, false, false, false] 4 FP__law_sh_bound (aCons (aVal (eIxB 9 (eC (.int (1))))) (aCons (aRefV 10) (aCons (aRefV 1) (aCons (aRefV 7) (aNil)))))) (eNil)))))) (aNil))))) (sSeq (sSetU 3 (uVal (eIf (tAndM (eTB (eOp gLe (eIxB 11 (eC (.int (1)))) (eOp gPow (eC (.int (10))) (eC (.int (6)))))) (eTB (eOp gLt (eIxB 11 (eC (.int (0)))) (eIxB 11 (eC (.int (1))))))) (eVar 11) (eVar 3)))) (PL.ret .next)))) (PL.ret .next)) (E52 l b c (.val (.int h)) s2 (.val P) .none .none .none .none .none (.val W) (.val (.int n)) .none .none .none .none) = .ok .next (E52 l3 b c3 (.val (.int h)) s2 (.val (if q ≤ 1000000 ∧ p < q then fr p q else P)) .none .none .none (.val (.int (1 + x))) .none (.val W) (.val (.int n)) (.val (fr p q)) .none .none .none) := by
  have pw : gPow (.int 10) (.int 6) = some (.int 1000000) := by kernel_rfl
  have t0 : (eTB (eOp gEq (eCall 2 FP__law_roll (aCons (aRefV 0) (aCons (aVal (eC (.int (2)))) (aNil)))) (eC (.int (0))))) (E52 l b c (.val (.int h)) s2 (.val P) .none .none .none .none .none (.val W) (.val (.int n)) .none .none .none .none) = .ok true (E52 l1 b c1 (.val (.int h)) s2 (.val P) .none .none .none .none .none (.val W) (.val (.int n)) .none .none .none .none) := by simp (disch := omega) [envOf, mulOk_l, mulOk_r, fits_of, dTru, e]
  have r0 : (sSetU 7 (uVal (eOp gAdd (eC (.int (1))) (eCallL [true, false] 2 FP__law_roll (aCons (aRefV 0) (aCons (aRefV 1) (aNil))))))) (E52 l1 b c1 (.val (.int h)) s2 (.val P) .none .none .none .none .none (.val W) (.val (.int n)) .none .none .none .none) = .ok .next (E52 l2 b c2 (.val (.int h)) s2 (.val P) .none .none .none (.val (.int (1 + x))) .none (.val W) (.val (.int n)) .none .none .none .none) := by simp (disch := omega) [envOf, mulOk_l, mulOk_r, fits_of, dTru, e2]
  have r1 : (sSetU 11 (uCall 2 FP__law_pick (aCons (aRefV 0) (aCons (aVal (eOfF (eLstO (eCons (eCallL [false, false, false, false] 4 FP__law_sh_possible (aCons (aVal (eIxB 9 (eC (.int (1))))) (aCons (aRefV 10) (aCons (aRefV 1) (aCons (aRefV 7) (aNil)))))) (eCons (eCallL [false, false, false, false] 4 FP__law_sh_bound (aCons (aVal (eIxB 9 (eC (.int (1))))) (aCons (aRefV 10) (aCons (aRefV 1) (aCons (aRefV 7) (aNil)))))) (eNil)))))) (aNil))))) (E52 l2 b c2 (.val (.int h)) s2 (.val P) .none .none .none (.val (.int (1 + x))) .none (.val W) (.val (.int n)) .none .none .none .none) = .ok .next (E52 l3 b c3 (.val (.int h)) s2 (.val P) .none .none .none (.val (.int (1 + x))) .none (.val W) (.val (.int n)) (.val (fr p q)) .none .none .none) := by simp (disch := omega) [envOf, mulOk_l, mulOk_r, fits_of, dTru, g, e3, e4, e5]
  have r2 : (sSetU 3 (uVal (eIf (tAndM (eTB (eOp gLe (eIxB 11 (eC (.int (1)))) (eOp gPow (eC (.int (10))) (eC (.int (6)))))) (eTB (eOp gLt (eIxB 11 (eC (.int (0)))) (eIxB 11 (eC (.int (1))))))) (eVar 11) (eVar 3)))) (E52 l3 b c3 (.val (.int h)) s2 (.val P) .none .none .none (.val (.int (1 + x))) .none (.val W) (.val (.int n)) (.val (fr p q)) .none .none .none) = .ok .next (E52 l3 b c3 (.val (.int h)) s2 (.val (if q ≤ 1000000 ∧ p < q then fr p q else P)) .none .none .none (.val (.int (1 + x))) .none (.val W) (.val (.int n)) (.val (fr p q)) .none .none .none) := by
    by_cases c1 : q ≤ 1000000
    · by_cases c2 : p < q
      · simp (disch := omega) [envOf, mulOk_l, mulOk_r, fits_of, dTru, pw, c1, c2]
      · simp (disch := omega) [envOf, mulOk_l, mulOk_r, fits_of, dTru, pw, c1, c2]
    · simp (disch := omega) [envOf, mulOk_l, mulOk_r, fits_of, dTru, pw, c1]
  unfold sIf
  rw [bnd_ok t0, if_pos rfl]
  exact seq_nx r0 (seq_nx r1 (seq_nx r2 rfl))
theorem w_5 {l b c n h : Int} {W R P A B : D} {s2 s7 s11 : SV} (g : gIx W (.int 1) = some R) (e : FP__law_seat_span [.val R, .val (.int n), .val (.int h), .val P] = .ok (.val (.tup [A, B])) [.none, .none, .none, .none]) : (sAsg (.tp [(.nm 12), (.nm 13)]) (eCallL [false, false, false, false] 4 FP__law_seat_span (aCons (aVal (eIxB 9 (eC (.int (1))))) (aCons (aRefV 10) (aCons (aRefV 1) (aCons (aRefV 3) (aNil))))))) (E52 l b c (.val (.int h)) s2 (.val P) .none .none .none s7 .none (.val W) (.val (.int n)) s11 .none .none .none) = .ok .next (E52 l b c (.val (.int h)) s2 (.val P) .none .none .none s7 .none (.val W) (.val (.int n)) s11 (.val A) (.val B) .none) := by
  have u : (eCallL [false, false, false, false] 4 FP__law_seat_span (aCons (aVal (eIxB 9 (eC (.int (1))))) (aCons (aRefV 10) (aCons (aRefV 1) (aCons (aRefV 3) (aNil)))))) (E52 l b c (.val (.int h)) s2 (.val P) .none .none .none s7 .none (.val W) (.val (.int n)) s11 .none .none .none) = .ok (.tup [A, B]) (E52 l b c (.val (.int h)) s2 (.val P) .none .none .none s7 .none (.val W) (.val (.int n)) s11 .none .none .none) := by simp (disch := omega) [envOf, mulOk_l, mulOk_r, fits_of, dTru, g, e]
  unfold sAsg
  rw [bnd_ok u]
  rfl
theorem w_6 {l b c n h : Int} {W P A B : D} {s2 s7 s11 : SV} (e : FP_seats_span [.val W, .val (.int n), .val (.int h), .val P] = .ok (.val (.tup [A, B])) [.none, .none, .none, .none]) (ne : gNe (.tup [A, B]) (.tup [A, B]) = some (.bl false)) : (sIf (eTB (eOp gNe (eCallL [false, false, false, false] 4 FP_seats_span (aCons (aRefV 9) (aCons (aRefV 10) (aCons (aRefV 1) (aCons (aRefV 3) (aNil)))))) (eTup (eCons (eVar 12) (eCons (eVar 13) (eNil)))))) (sSeq (sRetU (uVal (eC (.bl false)))) (PL.ret .next)) (PL.ret .next)) (E52 l b c (.val (.int h)) s2 (.val P) .none .none .none s7 .none (.val W) (.val (.int n)) s11 (.val A) (.val B) .none) = .ok .next (E52 l b c (.val (.int h)) s2 (.val P) .none .none .none s7 .none (.val W) (.val (.int n)) s11 (.val A) (.val B) .none) := by
  simp (disch := omega) [envOf, mulOk_l, mulOk_r, fits_of, dTru, e, ne]
abbrev E5f (l b c n h : Int) (W P A B : D) (s2 s4 s5 s6 s7 s8 s11 s14 : SV) : PL.Env := E52 l b c (.val (.int h)) s2 (.val P) s4 s5 s6 s7 s8 (.val W) (.val (.int n)) s11 (.val A) (.val B) s14
theorem w_7 {l b c l1 c1 n h : Int} {W P A B V : D} {s2 s7 s11 : SV} (e : FP__law_votes [dc l b c, .val (.int 9)] = .ok (.val V) [dc l1 b c1, .none]) : (sSetU 4 (uCall 2 FP__law_votes (aCons (aRefV 0) (aCons (aVal (eC (.int (9)))) (aNil))))) (E5f l b c n h W P A B s2 .none .none .none s7 .none s11 .none) = .ok .next (E5f l1 b c1 n h W P A B s2 (.val V) .none .none s7 .none s11 .none) := by
  simp (disch := omega) [envOf, mulOk_l, mulOk_r, fits_of, dTru, e]
theorem w_8 {l b c n h T : Int} {W P A B V : D} {s2 s7 s11 : SV} (e : gSum [V] = some (.int T)) : (sSetU 5 (uVal (eFnO gSum 4))) (E5f l b c n h W P A B s2 (.val V) .none .none s7 .none s11 .none) = .ok .next (E5f l b c n h W P A B s2 (.val V) (.val (.int T)) .none s7 .none s11 .none) := by
  simp (disch := omega) [envOf, mulOk_l, mulOk_r, fits_of, dTru, e]
theorem w_9 {l b c n h T p q : Int} {W A B V : D} {s2 s7 s11 : SV} (m : mulOk p T = true) : (sSetU 6 (uVal (eOp gMulI (eIxB 3 (eC (.int (0)))) (eVar 5)))) (E5f l b c n h W (fr p q) A B s2 (.val V) (.val (.int T)) .none s7 .none s11 .none) = .ok .next (E5f l b c n h W (fr p q) A B s2 (.val V) (.val (.int T)) (.val (.int (p * T))) s7 .none s11 .none) := by
  simp (disch := omega) [envOf, mulOk_l, mulOk_r, fits_of, dTru, m]
theorem w_10n {l b c n h S p q k mx : Int} {W A B V : D} {s2 s5 s7 s11 : SV} (hl : gLen [V] = some (.int k)) (hm : gMax [V] = some (.int mx)) (m : mulOk (q - p) mx = true) (cn : ¬ (k = n - 1 ∧ S ≤ 1000000000 ∧ (q - p) * mx ≤ 1000000000)) : (sIf (tAndM (eTB (eOp gEq (eFnO gLen 4) (eOp gSub (eVar 10) (eC (.int (1)))))) (tAndM (eTB (eOpL gLe 6 (eOp gPow (eC (.int (10))) (eC (.int (9)))))) (eTB (eOp gLe (eOp gMulI (eOp gSub (eIxB 3 (eC (.int (1)))) (eIxB 3 (eC (.int (0))))) (eFnB gMax 4)) (eOp gPow (eC (.int (10))) (eC (.int (9)))))))) (sSeq (sSetU 14 (uVal (eOp gAdd (eTup (eCons (eVar 6) (eNil))) (eFn gTuple (eCons (eOfF (lendC [4] (eLc (iSeq (eVar 4)) [16] (.nm 16) (PL.ret true) (eOp gMulI (eOp gSub (eIxB 3 (eC (.int (1)))) (eIxB 3 (eC (.int (0))))) (eVar 16))))) (eNil)))))) (sSeq (sIf (tOrM (tAndM (tNotM (eTru (eCallL [false, false, false, false] 4 FP__law_sh_sure (aCons (aRefV 9) (aCons (aRefV 1) (aCons (aRefV 12) (aCons (aRefV 14) (aNil)))))))) (eTB (eOpL gGt 12 (eC (.int (0)))))) (eTru (eCallL [false, false, false, false] 4 FP__law_sh_can (aCons (aRefV 9) (aCons (aRefV 1) (aCons (aVal (eOp gAdd (eVar 13) (eC (.int (1))))) (aCons (aRefV 14) (aNil)))))))) (sSeq (sRetU (uVal (eC (.bl false)))) (PL.ret .next)) (PL.ret .next)) (PL.ret .next))) (PL.ret .next)) (E5f l b c n h W (fr p q) A B s2 (.val V) s5 (.val (.int S)) s7 .none s11 .none) = .ok .next (E5f l b c n h W (fr p q) A B s2 (.val V) s5 (.val (.int S)) s7 .none s11 .none) := by
  have pw : gPow (.int 10) (.int 9) = some (.int 1000000000) := by kernel_rfl
  by_cases c1 : k = n - 1
  · by_cases c2 : S ≤ 1000000000
    · have c3 : ¬ (q - p) * mx ≤ 1000000000 := fun x => cn ⟨c1, c2, x⟩
      simp (disch := omega) [envOf, mulOk_l, mulOk_r, fits_of, dTru, hl, hm, pw, m, c1, c2, c3]
    · simp (disch := omega) [envOf, mulOk_l, mulOk_r, fits_of, dTru, hl, pw, c1, c2]
  · simp (disch := omega) [envOf, mulOk_l, mulOk_r, fits_of, dTru, hl, pw, c1]
theorem w_10y {l b c n h S p q k mx low high : Int} {W V U : D} {L : List D} {s2 s5 s7 s11 : SV} {z1 : Bool} (hl : gLen [V] = some (.int k)) (hm : gMax [V] = some (.int mx)) (m : mulOk (q - p) mx = true) (c1 : k = n - 1) (c2 : S ≤ 1000000000) (c3 : (q - p) * mx ≤ 1000000000)
    (lc : (eLc (iSeq (eVar 4)) [16] (.nm 16) (PL.ret true) (eOp gMulI (eOp gSub (eIxB 3 (eC (.int (1)))) (eIxB 3 (eC (.int (0))))) (eVar 16))) (E5f l b c n h W (fr p q) (.int low) (.int high) s2 (.val V) s5 (.val (.int S)) s7 .none s11 .none) = .ok L (E5f l b c n h W (fr p q) (.int low) (.int high) s2 (.val V) s5 (.val (.int S)) s7 .none s11 .none)) (ga : gAdd (.tup [.int S]) (.tup L) = some U)
    (e1 : FP__law_sh_sure [.val W, .val (.int h), .val (.int low), .val U] = .ok (.val (.bl z1)) [.none, .none, .none, .none]) (hz : 0 < low → z1 = true) (e2 : FP__law_sh_can [.val W, .val (.int h), .val (.int (high + 1)), .val U] = .ok (.val (.bl false)) [.none, .none, .none, .none]) :
    (sIf (tAndM (eTB (eOp gEq (eFnO gLen 4) (eOp gSub (eVar 10) (eC (.int (1)))))) (tAndM (eTB (eOpL gLe 6 (eOp gPow (eC (.int (10))) (eC (.int (9)))))) (eTB (eOp gLe (eOp gMulI (eOp gSub (eIxB 3 (eC (.int (1)))) (eIxB 3 (eC (.int (0))))) (eFnB gMax 4)) (eOp gPow (eC (.int (10))) (eC (.int (9)))))))) (sSeq (sSetU 14 (uVal (eOp gAdd (eTup (eCons (eVar 6) (eNil))) (eFn gTuple (eCons (eOfF (lendC [4] (eLc (iSeq (eVar 4)) [16] (.nm 16) (PL.ret true) (eOp gMulI (eOp gSub (eIxB 3 (eC (.int (1)))) (eIxB 3 (eC (.int (0))))) (eVar 16))))) (eNil)))))) (sSeq (sIf (tOrM (tAndM (tNotM (eTru (eCallL [false, false, false, false] 4 FP__law_sh_sure (aCons (aRefV 9) (aCons (aRefV 1) (aCons (aRefV 12) (aCons (aRefV 14) (aNil)))))))) (eTB (eOpL gGt 12 (eC (.int (0)))))) (eTru (eCallL [false, false, false, false] 4 FP__law_sh_can (aCons (aRefV 9) (aCons (aRefV 1) (aCons (aVal (eOp gAdd (eVar 13) (eC (.int (1))))) (aCons (aRefV 14) (aNil)))))))) (sSeq (sRetU (uVal (eC (.bl false)))) (PL.ret .next)) (PL.ret .next)) (PL.ret .next))) (PL.ret .next)) (E5f l b c n h W (fr p q) (.int low) (.int high) s2 (.val V) s5 (.val (.int S)) s7 .none s11 .none) = .ok .next (E5f l b c n h W (fr p q) (.int low) (.int high) s2 (.val V) s5 (.val (.int S)) s7 .none s11 (.val U)) := by
  have pw : gPow (.int 10) (.int 9) = some (.int 1000000000) := by kernel_rfl
  have t0 : (tAndM (eTB (eOp gEq (eFnO gLen 4) (eOp gSub (eVar 10) (eC (.int (1)))))) (tAndM (eTB (eOpL gLe 6 (eOp gPow (eC (.int (10))) (eC (.int (9)))))) (eTB (eOp gLe (eOp gMulI (eOp gSub (eIxB 3 (eC (.int (1)))) (eIxB 3 (eC (.int (0))))) (eFnB gMax 4)) (eOp gPow (eC (.int (10))) (eC (.int (9)))))))) (E5f l b c n h W (fr p q) (.int low) (.int high) s2 (.val V) s5 (.val (.int S)) s7 .none s11 .none) = .ok true (E5f l b c n h W (fr p q) (.int low) (.int high) s2 (.val V) s5 (.val (.int S)) s7 .none s11 .none) := by simp (disch := omega) [envOf, mulOk_l, mulOk_r, fits_of, dTru, hl, hm, pw, m, c1, c2, c3]
  have lv := lendM_val (env := E5f l b c n h W (fr p q) (.int low) (.int high) s2 (.val V) s5 (.val (.int S)) s7 .none s11 .none) (j := 4) (d := V) (f := (eLc (iSeq (eVar 4)) [16] (.nm 16) (PL.ret true) (eOp gMulI (eOp gSub (eIxB 3 (eC (.int (1)))) (eIxB 3 (eC (.int (0))))) (eVar 16)))) rfl
  rw [lc] at lv
  rw [← v_lendC] at lv
  have r0 : (sSetU 14 (uVal (eOp gAdd (eTup (eCons (eVar 6) (eNil))) (eFn gTuple (eCons (eOfF (lendC [4] (eLc (iSeq (eVar 4)) [16] (.nm 16) (PL.ret true) (eOp gMulI (eOp gSub (eIxB 3 (eC (.int (1)))) (eIxB 3 (eC (.int (0))))) (eVar 16))))) (eNil)))))) (E5f l b c n h W (fr p q) (.int low) (.int high) s2 (.val V) s5 (.val (.int S)) s7 .none s11 .none) = .ok .next (E5f l b c n h W (fr p q) (.int low) (.int high) s2 (.val V) s5 (.val (.int S)) s7 .none s11 (.val U)) := by
    generalize (lendC [4] (eLc (iSeq (eVar 4)) [16] (.nm 16) (PL.ret true) (eOp gMulI (eOp gSub (eIxB 3 (eC (.int (1)))) (eIxB 3 (eC (.int (0))))) (eVar 16)))) = MM at *
    simp (disch := omega) [envOf, mulOk_l, mulOk_r, fits_of, dTru, lv, gTuple, ga]
  have r1 : (sIf (tOrM (tAndM (tNotM (eTru (eCallL [false, false, false, false] 4 FP__law_sh_sure (aCons (aRefV 9) (aCons (aRefV 1) (aCons (aRefV 12) (aCons (aRefV 14) (aNil)))))))) (eTB (eOpL gGt 12 (eC (.int (0)))))) (eTru (eCallL [false, false, false, false] 4 FP__law_sh_can (aCons (aRefV 9) (aCons (aRefV 1) (aCons (aVal (eOp gAdd (eVar 13) (eC (.int (1))))) (aCons (aRefV 14) (aNil)))))))) (sSeq (sRetU (uVal (eC (.bl false)))) (PL.ret .next)) (PL.ret .next)) (E5f l b c n h W (fr p q) (.int low) (.int high) s2 (.val V) s5 (.val (.int S)) s7 .none s11 (.val U)) = .ok .next (E5f l b c n h W (fr p q) (.int low) (.int high) s2 (.val V) s5 (.val (.int S)) s7 .none s11 (.val U)) := by
    by_cases q0 : 0 < low
    · rw [hz q0] at e1
      simp (disch := omega) [envOf, mulOk_l, mulOk_r, fits_of, dTru, e1, e2]
    · cases z1 <;> simp (disch := omega) [envOf, mulOk_l, mulOk_r, fits_of, dTru, e1, e2, q0]
  unfold sIf
  rw [bnd_ok t0, if_pos rfl]
  exact seq_nx r0 (seq_nx r1 rfl)
theorem w_11 {l b c l1 c1 l2 c2 n h m x : Int} {W P A B : D} {s2 s4 s5 s6 s7 s11 s14 : SV} (e1 : FP__law_pick [dc l b c, .val (.lst [.int 4, .int 30])] = .ok (.val (.int m)) [dc l1 b c1, .none]) (e2 : FP__law_roll [dc l1 b c1, .val (.int m)] = .ok (.val (.int x)) [dc l2 b c2, .none]) : (sSetU 7 (uVal (eOp gAdd (eC (.int (1))) (eCall 2 FP__law_roll (aCons (aRefV 0) (aCons (aVal (eCall 2 FP__law_pick (aCons (aRefV 0) (aCons (aVal (eOfF (eLstO (eCons (eC (.int (4))) (eCons (eC (.int (30))) (eNil)))))) (aNil))))) (aNil))))))) (E5f l b c n h W P A B s2 s4 s5 s6 s7 .none s11 s14) = .ok .next (E5f l2 b c2 n h W P A B s2 s4 s5 s6 (.val (.int (1 + x))) .none s11 s14) := by
  simp (disch := omega) [envOf, mulOk_l, mulOk_r, fits_of, dTru, e1, e2]
abbrev E5g (l b c n h a : Int) (W P A B : D) (s2 s4 s5 s6 s8 s11 s14 s15 : SV) : PL.Env := [dc l b c, .val (.int h), s2, .val P, s4, s5, s6, .val (.int a), s8, .val W, .val (.int n), s11, .val A, .val B, s14, s15, .none]
theorem w_12c {l b c n h a k : Int} {W R P A B X : D} {s2 s4 s5 s6 s8 s11 s14 : SV} {z : Bool} (g : gIx W (.int 1) = some R) (e1 : FP__law_sh_possible [.val R, .val (.int n), .val (.int k), .val (.int a)] = .ok (.val X) [.none, .none, .none, .none]) (e2 : FP__law_fr_less [.val P, .val X] = .ok (.val (.bl (!z))) [.none, .none]) : (tNotM (eTru (eCallL [false, false] 2 FP__law_fr_less (aCons (aRefV 3) (aCons (aVal (eCallL [false, false, false, false] 4 FP__law_sh_possible (aCons (aVal (eIxB 9 (eC (.int (1))))) (aCons (aRefV 10) (aCons (aRefV 15) (aCons (aRefV 7) (aNil))))))) (aNil)))))) (E5g l b c n h a W P A B s2 s4 s5 s6 s8 s11 s14 (.val (.int k))) = .ok z (E5g l b c n h a W P A B s2 s4 s5 s6 s8 s11 s14 (.val (.int k))) := by
  cases z <;> simp only [Bool.not_true, Bool.not_false] at e2 <;> simp (disch := omega) [envOf, mulOk_l, mulOk_r, fits_of, dTru, g, e1, e2]
theorem w_12s {l b c n h a : Int} {W P A B : D} {L : List D} {s2 s4 s5 s6 s8 s11 s14 s15 : SV} (rg : rng2 [.int a, .int 201] = some L) : (iRng rng2 (eCons (eVar 7) (eCons (eC (.int (201))) (eNil)))) (E5g l b c n h a W P A B s2 s4 s5 s6 s8 s11 s14 s15) = .ok L (E5g l b c n h a W P A B s2 s4 s5 s6 s8 s11 s14 s15) := by
  simp (disch := omega) [envOf, mulOk_l, mulOk_r, fits_of, dTru, rg]
theorem w_13n {l b c n h a : Int} {W P A B : D} {s2 s4 s5 s6 s11 s14 : SV} (e : FP__law_met [.val W, .val (.int n), .val P, .val (.int a)] = .ok (.val (.tup [.str "none"])) [.none, .none, .none, .none]) : (sRetU (uVal (eOp gEq (eCallL [false, false, false, false] 4 FP__law_met (aCons (aRefV 9) (aCons (aRefV 10) (aCons (aRefV 3) (aCons (aRefV 7) (aNil)))))) (eIf (eTB (eOpL gNe 8 (eOfF (eLstO (eNil))))) (eIxB 8 (eC (.int (0)))) (eTup (eCons (eC (.str "none")) (eNil))))))) (E5g l b c n h a W P A B s2 s4 s5 s6 (.own false []) s11 s14 .none) = .ok (.ret (.val (.bl true))) (E5g l b c n h a W P A B s2 s4 s5 s6 (.own false []) s11 s14 .none) := by
  have z : gNe (.lst []) (.lst []) = some (.bl false) := rfl
  have q : gEq (.tup [.str "none"]) (.tup [.str "none"]) = some (.bl true) := by kernel_rfl
  generalize hT : D.tup [.str "none"] = T at *
  simp (disch := omega) [envOf, mulOk_l, mulOk_r, fits_of, dTru, e, z, hT, q]
theorem w_13y {l b c n h a k : Int} {W P A B : D} {L : List D} {s2 s4 s5 s6 s11 s14 : SV} (e : FP__law_met [.val W, .val (.int n), .val P, .val (.int a)] = .ok (.val (.int k)) [.none, .none, .none, .none]) (z : gNe (.lst L) (.lst []) = some (.bl true)) (at0 : atI L 0 = some (.int k)) : (sRetU (uVal (eOp gEq (eCallL [false, false, false, false] 4 FP__law_met (aCons (aRefV 9) (aCons (aRefV 10) (aCons (aRefV 3) (aCons (aRefV 7) (aNil)))))) (eIf (eTB (eOpL gNe 8 (eOfF (eLstO (eNil))))) (eIxB 8 (eC (.int (0)))) (eTup (eCons (eC (.str "none")) (eNil))))))) (E5g l b c n h a W P A B s2 s4 s5 s6 (.own false L) s11 s14 .none) = .ok (.ret (.val (.bl true))) (E5g l b c n h a W P A B s2 s4 s5 s6 (.own false L) s11 s14 .none) := by
  simp (disch := omega) [envOf, mulOk_l, mulOk_r, fits_of, dTru, e, z, at0]
end LW
namespace LW
open PySem PL L2
theorem w_10el {l b c n h S p q o : Int} {W V A B : D} {s2 s5 s7 s11 : SV} (m : mulOk (q - p) o = true) : (eOp gMulI (eOp gSub (eIxB 3 (eC (.int (1)))) (eIxB 3 (eC (.int (0))))) (eVar 16)) [dc l b c, .val (.int h), s2, .val (fr p q), .val V, s5, .val (.int S), s7, .none, .val W, .val (.int n), s11, .val A, .val B, .none, .none, .val (.int o)] = .ok (.int ((q - p) * o)) [dc l b c, .val (.int h), s2, .val (fr p q), .val V, s5, .val (.int S), s7, .none, .val W, .val (.int n), s11, .val A, .val B, .none, .none, .val (.int o)] := by
  simp (disch := omega) [envOf, mulOk_l, mulOk_r, fits_of, dTru, m]
theorem PQ_of {x y : Int} (x1 : 1 ≤ x) (xy : x < y) (y1 : y ≤ 1000000) : ∃ p q : Int, frac x y = fr p q ∧ PQ p q := by
  have p0 := top_pos (t := x) (b := y) (by omega) x1
  have q0 := bot_pos (t := x) (b := y) (by omega)
  have q1 := bot_le (t := x) (b := y) (by omega)
  have e := frac_ratio (t := x) (b := y)
  have g := gcd_low (t := x) (b := y) (by omega)
  refine ⟨_, _, rfl, ⟨p0, ?_, by omega, g⟩⟩
  generalize x / (Int.gcd x y : Int) = p at *
  generalize y / (Int.gcd x y : Int) = q at *
  have := Int.mul_lt_mul_of_pos_right xy q0
  rw [← e] at this
  have e2 : y * q = q * y := Int.mul_comm ..
  rw [e2] at this
  exact Int.lt_of_mul_lt_mul_right this (by omega)
theorem low_of {x y : Int} (x1 : 1 ≤ x) (y1 : 1 ≤ y) : ∃ p q : Int, frac x y = fr p q ∧ 1 ≤ p ∧ Int.gcd p q = 1 := ⟨_, _, rfl, top_pos (t := x) (b := y) (by omega) x1, gcd_low (t := x) (b := y) (by omega)⟩
theorem maxI_ge : ∀ {l : List Int}, ∀ x ∈ l, x ≤ maxI l
  | [], x, h => by cases h
  | a :: l, x, h => by
    have : ∀ (l : List Int) (m : Int), m ≤ l.foldl max m ∧ ∀ y ∈ l, y ≤ l.foldl max m := fun l => by
      induction l with
      | nil => exact fun m => ⟨Int.le_refl _, fun y hy => by cases hy⟩
      | cons b l ih =>
        intro m
        obtain ⟨i1, i2⟩ := ih (max m b)
        rw [List.foldl_cons]
        refine ⟨by omega, fun y hy => ?_⟩
        rcases List.mem_cons.mp hy with rfl | hy
        · omega
        · exact i2 y hy
    show x ≤ l.foldl max a
    obtain ⟨i1, i2⟩ := this l a
    rcases List.mem_cons.mp h with rfl | h
    · exact i1
    · exact i2 x h
theorem gMax_tv {l : List Int} (h : 0 < l.length) : gMax [tv l] = some (.int (maxI l)) := by
  show (match asInts (l.map D.int) with
    | some ns => if 0 < ns.length then some (D.int (maxI ns)) else none
    | none => none) = _
  rw [asInts_map]
  exact if_pos h
def usO (p q : Int) (vs : List Int) : List Int := (p * vs.sum) :: vs.map fun o => (q - p) * o
theorem usO_facts {p q : Int} (pq : PQ p q) {vs : List Int} (hv : VV vs) (h9 : vs.length ≤ 9) (c2 : p * vs.sum ≤ 1000000000) (c3 : (q - p) * maxI vs ≤ 1000000000) : VV (usO p q vs) ∧ (usO p q vs).length = vs.length + 1 ∧ (usO p q vs).sum = q * vs.sum ∧ vAt (usO p q vs) 0 = p * vs.sum := by
  have p1 := pq.p1; have p2 := pq.pq
  have T0 := hv.pos
  have s0 : ∀ ws : List Int, (ws.map fun o => (q - p) * o).sum = (q - p) * ws.sum := fun ws => by
    induction ws with
    | nil => simp
    | cons a ws ih => rw [List.map_cons, List.sum_cons, ih, List.sum_cons, Int.mul_add]
  have ln : (usO p q vs).length = vs.length + 1 := by unfold usO; rw [List.length_cons, List.length_map]
  refine ⟨⟨by omega, by omega, fun v h => ?_, fun v h => ?_⟩, ln, ?_, rfl⟩
  · unfold usO at h
    rcases List.mem_cons.mp h with rfl | h
    · have := Int.mul_le_mul p1 T0 (by decide) (by omega)
      omega
    · obtain ⟨o, ho, rfl⟩ := List.mem_map.mp h
      have := Int.mul_le_mul (show 1 ≤ q - p by omega) (hv.lo o ho) (by decide) (by omega)
      omega
  · unfold usO at h
    rcases List.mem_cons.mp h with rfl | h
    · exact c2
    · obtain ⟨o, ho, rfl⟩ := List.mem_map.mp h
      have := Int.mul_le_mul_of_nonneg_left (maxI_ge o ho) (show 0 ≤ q - p by omega)
      omega
  · unfold usO
    rw [List.sum_cons, s0]
    grind
theorem usO_sure {t d p q : Int} (r : RB t d) (pq : PQ p q) {us : List Int} (hv : VV us) {T : Int} (T0 : 0 < T) (n2 : 2 ≤ us.length) (sm : us.sum = q * T) (v0 : vAt us 0 = p * T) {h a : Int} (a1 : 1 ≤ a) (ah : a ≤ h) (h2 : h ≤ 200) (c : sureP t d us.length h p q a = true) : a + beyond (.st t d) us a 0 ≤ h := by
  refine Decidable.byContradiction fun x => ?_
  obtain ⟨g1, g2⟩ := sure_part r hv n2 a1 ah h2 x
  rw [sm, v0] at g1 g2
  have e1 : p * T * sB t d us.length h a = p * sB t d us.length h a * T := by grind
  have e2 : q * T * pT t d a = pT t d a * q * T := by grind
  rw [e1, e2] at g1 g2
  have g1' := Int.le_of_mul_le_mul_right g1 T0
  unfold sureP at c
  rw [Bool.or_eq_true, Bool.and_eq_true, decide_eq_true_eq, decide_eq_true_eq, decide_eq_true_eq] at c
  rcases c with c | ⟨c, k⟩
  · omega
  · have := Int.lt_of_mul_lt_mul_right (g2 (by omega)) (by omega)
    omega
theorem usO_can {t d p q : Int} (r : RB t d) {us : List Int} (hv : VV us) {T : Int} (T0 : 0 < T) (sm : us.sum = q * T) (v0 : vAt us 0 = p * T) {h : Nat} (h2 : h ≤ 200) {m : Nat} (x : MX (canP t d us.length h p q) h m) : ¬ ((m : Int) + 1) + beyond (.st t d) us ((m : Int) + 1) 1 ≤ (h : Int) := by
  intro c
  have ml := x.le
  have nn : 0 ≤ beyond (.st t d) us ((m : Int) + 1) 1 := by
    unfold beyond othS
    exact sum_nn fun s hs => by
      obtain ⟨j, _, rfl⟩ := List.mem_map.mp hs
      unfold nB cnt
      omega
  have g := can_part r hv (h := (h : Int)) (a := (m : Int) + 1) (by omega) (by omega) (by omega) c
  rw [sm, v0] at g
  have e1 : q * T * pT t d ((m : Int) + 1) = pT t d ((m : Int) + 1) * q * T := by grind
  have e2 : p * T * pB t d us.length h = p * pB t d us.length h * T := by grind
  rw [e1, e2] at g
  have g' := Int.le_of_mul_le_mul_right g T0
  have := x.top (m + 1) (by omega) (by omega) (by
    unfold canP
    rw [decide_eq_true_eq, show (((m + 1 : Nat) : Int)) = (m : Int) + 1 by omega]
    exact g')
  omega
theorem hses {t d n p q : Int} (r : RB t d) (n1 : 2 ≤ n) (n2 : n ≤ 10) (pq : PQ p q) {a : Nat} (a1 : 1 ≤ a) {l b c h : Int} {A B : D} {s2 s4 s5 s6 s11 s14 : SV} (a2 : a ≤ 200) :
    (sSetO 8 (eLc (iRng rng2 (eCons (eVar 7) (eCons (eC (.int (201))) (eNil)))) [15] (.nm 15) (tNotM (eTru (eCallL [false, false] 2 FP__law_fr_less (aCons (aRefV 3) (aCons (aVal (eCallL [false, false, false, false] 4 FP__law_sh_possible (aCons (aVal (eIxB 9 (eC (.int (1))))) (aCons (aRefV 10) (aCons (aRefV 15) (aCons (aRefV 7) (aNil))))))) (aNil)))))) (eVar 15))) (E5g l b c n h (a : Int) (wyD (.st t d)) (fr p q) A B s2 s4 s5 s6 .none s11 s14 .none) = .ok .next (E5g l b c n h (a : Int) (wyD (.st t d)) (fr p q) A B s2 s4 s5 s6 (.own false (natD (hseL t d n p q a))) s11 s14 .none) := by
  have lc : (eLc (iRng rng2 (eCons (eVar 7) (eCons (eC (.int (201))) (eNil)))) [15] (.nm 15) (tNotM (eTru (eCallL [false, false] 2 FP__law_fr_less (aCons (aRefV 3) (aCons (aVal (eCallL [false, false, false, false] 4 FP__law_sh_possible (aCons (aVal (eIxB 9 (eC (.int (1))))) (aCons (aRefV 10) (aCons (aRefV 15) (aCons (aRefV 7) (aNil))))))) (aNil)))))) (eVar 15)) (E5g l b c n h (a : Int) (wyD (.st t d)) (fr p q) A B s2 s4 s5 s6 .none s11 s14 .none) = .ok (natD (hseL t d n p q a)) (E5g l b c n h (a : Int) (wyD (.st t d)) (fr p q) A B s2 s4 s5 s6 .none s11 s14 .none) := by
    refine eLc_filter (fun k : Nat => hseP t d n a p q (k : Int)) (fun k : Nat => D.int (k : Int)) (fun k : Nat => D.int (k : Int)) (List.range' a (201 - a)) (w_12s (rng_from a2)) (by rw [List.length_range']; omega) fun k hk => ⟨E5g l b c n h (a : Int) (wyD (.st t d)) (fr p q) A B s2 s4 s5 s6 .none s11 s14 (.val (.int (k : Int))), E5g l b c n h (a : Int) (wyD (.st t d)) (fr p q) A B s2 s4 s5 s6 .none s11 s14 (.val (.int (k : Int))), E5g l b c n h (a : Int) (wyD (.st t d)) (fr p q) A B s2 s4 s5 s6 .none s11 s14 (.val (.int (k : Int))), rfl, w_12c (R := fr t d) (X := frac (pT t d a) (pB t d n k)) rfl (law_poss_ok r ?_) ?_, fun _ => rfl, by rw [ite_self]; rfl⟩
    · have := List.mem_range'_1.mp hk
      exact ⟨n1, n2, by omega, by omega, by omega⟩
    · have := List.mem_range'_1.mp hk
      have nb : NB n (k : Int) (a : Int) := ⟨n1, n2, by omega, by omega, by omega⟩
      have b1 := pT_bd r nb
      have b2 := pB_bd r nb
      have e := less_fr pq.fs (show FS (pT t d a) (pB t d n k) from ⟨by omega, by omega, by omega⟩)
      rw [pq.fr] at e
      rw [e]
      unfold hseP
      rw [← decide_not]
      simp only [Int.not_le]
  unfold sSetO
  rw [bnd_ok lc]
  rfl
theorem ne_int2 {x y : Int} : gNe (.tup [.int x, .int y]) (.tup [.int x, .int y]) = some (.bl false) := gNe_same rfl
theorem part_row {t d : Int} (r : RB t d) {n h p q : Int} (n1 : 2 ≤ n) (n2 : n ≤ 10) (h1 : 1 ≤ h) (h2 : h ≤ 200) (pq : PQ p q) (l b c : Int) {s2 : SV} : ∃ l' c' p' q' s7 s11, PQ p' q' ∧ (sIf (eTB (eOp gEq (eCall 2 FP__law_roll (aCons (aRefV 0) (aCons (aVal (eC (.int (2)))) (aNil)))) (eC (.int (0))))) (sSeq (sSetU 7 (uVal (eOp gAdd (eC (.int (1))) (eCallL [true, false] 2 FP__law_roll (aCons (aRefV 0) (aCons (aRefV 1) (aNil))))))) (sSeq (sSetU 11 (uCall 2 FP__law_pick (aCons (aRefV 0) (aCons (aVal (eOfF (eLstO (eCons (eCallL [false, false, false, false] 4 FP__law_sh_possible (aCons (aVal (eIxB 9 (eC (.int (1))))) (aCons (aRefV 10) (aCons (aRefV 1) (aCons (aRefV 7) (aNil)))))) (eCons (eCallL [false, false, false, false] 4 FP__law_sh_bound (aCons (aVal (eIxB 9 (eC (.int (1))))) (aCons (aRefV 10) (aCons (aRefV 1) (aCons (aRefV 7) (aNil)))))) (eNil)))))) (aNil))))) (sSeq (sSetU 3 (uVal (eIf (tAndM (eTB (eOp gLe (eIxB 11 (eC (.int (1)))) (eOp gPow (eC (.int (10))) (eC (.int (6)))))) (eTB (eOp gLt (eIxB 11 (eC (.int (0)))) (eIxB 11 (eC (.int (1))))))) (eVar 11) (eVar 3)))) (PL.ret .next)))) (PL.ret .next)) (E52 l b c (.val (.int h)) s2 (.val (fr p q)) .none .none .none .none .none (.val (wyD (.st t d))) (.val (.int n)) .none .none .none .none) = .ok .next (E52 l' b c' (.val (.int h)) s2 (.val (fr p' q')) .none .none .none s7 .none (.val (wyD (.st t d))) (.val (.int n)) s11 .none .none .none) := by
  obtain ⟨z, l1, c1, e1, z0, z1⟩ := rolled l b c 2 (by decide) (by decide)
  by_cases hz : z = 0
  · subst hz
    obtain ⟨x, l2, c2, e2, x0, x1⟩ := rolled l1 b c1 h (by omega) (by omega)
    have k : NB n h (1 + x) := ⟨n1, n2, h2, by omega, by omega⟩
    have b1 := pT_bd r k
    have b2 := pB_bd r k
    have b3 := sB_bd r k
    obtain ⟨D5, l3, c3, m5, e5⟩ := law_pick_ok [frac (pT t d (1 + x)) (pB t d n h), frac (pT t d (1 + x)) (sB t d n h (1 + x))] (by simp) (by simp) l2 b c2
    obtain ⟨p', q', rfl, p1, g⟩ : ∃ p' q' : Int, D5 = fr p' q' ∧ 1 ≤ p' ∧ Int.gcd p' q' = 1 := by
      simp only [List.mem_cons, List.not_mem_nil, or_false] at m5
      rcases m5 with rfl | rfl
      · exact low_of b1.1 b2.1
      · exact low_of b1.1 b3.1
    have y := w_4y (P := fr p q) (s2 := s2) e1 e2 (show gIx (wyD (.st t d)) (.int 1) = some (fr t d) from rfl) (law_poss_ok r k) (law_bound_ok r k) e5
    by_cases c0 : q' ≤ 1000000 ∧ p' < q'
    · rw [if_pos c0] at y
      exact ⟨l3, c3, p', q', _, _, ⟨p1, c0.2, c0.1, g⟩, y⟩
    · rw [if_neg c0] at y
      exact ⟨l3, c3, p, q, _, _, pq, y⟩
  · exact ⟨l1, c1, p, q, .none, .none, pq, w_4n e1 hz⟩
theorem votes_row {t d : Int} (r : RB t d) {n p q : Int} {h : Nat} (n1 : 2 ≤ n) (n2 : n ≤ 10) (h1 : 1 ≤ h) (h2 : h ≤ 200) (pq : PQ p q) {vs : List Int} (hv : VV vs) (h9 : vs.length ≤ 9) {mc ms : Nat} (xc : MX (canP t d n h p q) h mc) (xs : MX (sureP t d n h p q) h ms) {l b c : Int} {s2 s5 s7 s11 : SV} :
    ∃ s14, (sIf (tAndM (eTB (eOp gEq (eFnO gLen 4) (eOp gSub (eVar 10) (eC (.int (1)))))) (tAndM (eTB (eOpL gLe 6 (eOp gPow (eC (.int (10))) (eC (.int (9)))))) (eTB (eOp gLe (eOp gMulI (eOp gSub (eIxB 3 (eC (.int (1)))) (eIxB 3 (eC (.int (0))))) (eFnB gMax 4)) (eOp gPow (eC (.int (10))) (eC (.int (9)))))))) (sSeq (sSetU 14 (uVal (eOp gAdd (eTup (eCons (eVar 6) (eNil))) (eFn gTuple (eCons (eOfF (lendC [4] (eLc (iSeq (eVar 4)) [16] (.nm 16) (PL.ret true) (eOp gMulI (eOp gSub (eIxB 3 (eC (.int (1)))) (eIxB 3 (eC (.int (0))))) (eVar 16))))) (eNil)))))) (sSeq (sIf (tOrM (tAndM (tNotM (eTru (eCallL [false, false, false, false] 4 FP__law_sh_sure (aCons (aRefV 9) (aCons (aRefV 1) (aCons (aRefV 12) (aCons (aRefV 14) (aNil)))))))) (eTB (eOpL gGt 12 (eC (.int (0)))))) (eTru (eCallL [false, false, false, false] 4 FP__law_sh_can (aCons (aRefV 9) (aCons (aRefV 1) (aCons (aVal (eOp gAdd (eVar 13) (eC (.int (1))))) (aCons (aRefV 14) (aNil)))))))) (sSeq (sRetU (uVal (eC (.bl false)))) (PL.ret .next)) (PL.ret .next)) (PL.ret .next))) (PL.ret .next)) (E5f l b c n h (wyD (.st t d)) (fr p q) (.int (ms : Int)) (.int (mc : Int)) s2 (.val (tv vs)) s5 (.val (.int (p * vs.sum))) s7 .none s11 .none) = .ok .next (E5f l b c n h (wyD (.st t d)) (fr p q) (.int (ms : Int)) (.int (mc : Int)) s2 (.val (tv vs)) s5 (.val (.int (p * vs.sum))) s7 .none s11 s14) := by
  have p1 := pq.p1; have p2 := pq.pq; have p3 := pq.q6
  have mo : ∀ o : Int, mulOk (q - p) o = true := fun o => mulOk_l (by omega)
  have hm := gMax_tv (l := vs) hv.n1
  by_cases cc0 : (vs.length : Int) = n - 1 ∧ p * vs.sum ≤ 1000000000 ∧ (q - p) * maxI vs ≤ 1000000000
  · obtain ⟨k1, k2, k3⟩ := cc0
    obtain ⟨vv, ln, sm, v0⟩ := usO_facts pq hv h9 k2 k3
    have T0 := hv.pos
    have un : ((usO p q vs).length : Int) = n := by omega
    have lc : (eLc (iSeq (eVar 4)) [16] (.nm 16) (PL.ret true) (eOp gMulI (eOp gSub (eIxB 3 (eC (.int (1)))) (eIxB 3 (eC (.int (0))))) (eVar 16))) (E5f l b c n h (wyD (.st t d)) (fr p q) (.int (ms : Int)) (.int (mc : Int)) s2 (.val (tv vs)) s5 (.val (.int (p * vs.sum))) s7 .none s11 .none) = .ok ((vs.map fun o => (q - p) * o).map .int) (E5f l b c n h (wyD (.st t d)) (fr p q) (.int (ms : Int)) (.int (mc : Int)) s2 (.val (tv vs)) s5 (.val (.int (p * vs.sum))) s7 .none s11 .none) := by
      rw [List.map_map]
      exact eLc_mapA D.int (D.int ∘ fun o => (q - p) * o) vs rfl (by omega) fun o _ => ⟨_, _, _, rfl, rfl, w_10el (mo o), rfl⟩
    have ga : gAdd (.tup [.int (p * vs.sum)]) (.tup ((vs.map fun o => (q - p) * o).map .int)) = some (tv (usO p q vs)) := by
      have fz : fits ([D.int (p * vs.sum)].length + ((vs.map fun o => (q - p) * o).map D.int).length) = true := fits_of (by rw [List.length_map, List.length_map]; simp; omega)
      show (if fits _ = true then some (D.tup _) else none) = _
      rw [if_pos fz]
      rfl
    rw [← un] at xc xs
    have cn := usO_can r vv T0 sm v0 h2 xc
    have e2 := can_ok (w := .st t d) r vv (h := (h : Int)) (a := (mc : Int) + 1) (by omega) (by have := xc.le; omega)
    rw [decide_eq_false cn] at e2
    have su : ∃ z1 : Bool, FP__law_sh_sure [.val (wyD (.st t d)), .val (.int (h : Int)), .val (.int (ms : Int)), .val (tv (usO p q vs))] = .ok (.val (.bl z1)) [.none, .none, .none, .none] ∧ (0 < (ms : Int) → z1 = true) := by
      by_cases z : ms = 0
      · subst z
        obtain ⟨z1, e⟩ := sure0_ok r vv (h := (h : Int))
        exact ⟨z1, e, fun x => by omega⟩
      · have ml := xs.le
        have c := usO_sure r pq vv T0 (by have := hv.n1; omega) sm v0 (h := (h : Int)) (a := (ms : Int)) (by omega) (by omega) (by omega) (by rcases xs.in_ with q0 | q0; exact absurd q0 z; exact q0)
        have e := surel_ok (w := .st t d) r vv (h := (h : Int)) (a := (ms : Int)) (by omega) (by omega)
        rw [decide_eq_true c] at e
        exact ⟨true, e, fun _ => rfl⟩
    obtain ⟨z1, e1, hz⟩ := su
    exact ⟨_, w_10y len_tv hm (mo _) k1 k2 k3 lc ga e1 hz e2⟩
  · exact ⟨.none, w_10n len_tv hm (mo _) cc0⟩
theorem right_ok (l b c : Int) : ∃ l' c', FP__law_right [dc l b c] = .ok (.val (.bl true)) [dc l' b c'] := by
  obtain ⟨t, d, l1, c1, r, e1⟩ := law_step_way_ok l b c
  obtain ⟨x, l2, c2, e2, x0, x1⟩ := rolled l1 b c1 9 (by decide) (by decide)
  have k0 := w_0 e1 e2
  obtain ⟨n, hn⟩ : ∃ n : Int, 2 + x = n := ⟨_, rfl⟩
  rw [hn] at k0
  obtain ⟨D3, l3, c3, m3, e3⟩ := law_pick_ok [.int 5, .int 12, .int 40] (by decide) (by decide) l2 b c2
  obtain ⟨M3, rfl, M30, M31⟩ : ∃ M : Int, D3 = .int M ∧ 5 ≤ M ∧ M ≤ 40 := by
    simp only [List.mem_cons, List.not_mem_nil, or_false] at m3
    rcases m3 with rfl | rfl | rfl
    · exact ⟨5, rfl, by decide, by decide⟩
    · exact ⟨12, rfl, by decide, by decide⟩
    · exact ⟨40, rfl, by decide, by decide⟩
  obtain ⟨y, l4, c4, e4, y0, y1⟩ := rolled l3 b c3 M3 (by omega) (by omega)
  have k1 := w_1 (s9 := .val (wyD (.st t d))) (s10 := .val (.int n)) e3 e4
  obtain ⟨h, hh⟩ : ∃ h : Nat, 1 + y = (h : Int) := ⟨(1 + y).toNat, by omega⟩
  rw [hh] at k1
  obtain ⟨D5, l5, c5, m5, e5⟩ := law_pick_ok [.int 8, .int 40, .int 999999] (by decide) (by decide) l4 b c4
  obtain ⟨M5, rfl, M50, M51⟩ : ∃ M : Int, D5 = .int M ∧ 8 ≤ M ∧ M ≤ 999999 := by
    simp only [List.mem_cons, List.not_mem_nil, or_false] at m5
    rcases m5 with rfl | rfl | rfl
    · exact ⟨8, rfl, by decide, by decide⟩
    · exact ⟨40, rfl, by decide, by decide⟩
    · exact ⟨999999, rfl, by decide, by decide⟩
  obtain ⟨z, l6, c6, e6, z0, z1⟩ := rolled l5 b c5 M5 (by omega) (by omega)
  have k2 := w_2 (s1 := .val (.int (h : Int))) (s9 := .val (wyD (.st t d))) (s10 := .val (.int n)) e5 e6
  obtain ⟨B, hB⟩ : ∃ B : Int, 2 + z = B := ⟨_, rfl⟩
  rw [hB] at k2
  obtain ⟨u, l7, c7, e7, u0, u1⟩ := rolled l6 b c6 (B - 1) (by omega) (by omega)
  obtain ⟨p0, q0, hpq, pq0⟩ := PQ_of (x := 1 + u) (y := B) (by omega) (by omega) (by omega)
  have f := law_fraction_ok (t := 1 + u) (b := B) (by omega) (big_of (by omega))
  rw [hpq] at f
  have k3 := w_3 (s1 := .val (.int (h : Int))) (s9 := .val (wyD (.st t d))) (s10 := .val (.int n)) e7 f
  obtain ⟨l8, c8, p, q, s7, s11, pq, k4⟩ := part_row r (n := n) (h := (h : Int)) (by omega) (by omega) (by omega) (by omega) pq0 l7 b c7 (s2 := .val (.int B))
  obtain ⟨mc, xc⟩ := mx_some (canP t d n h p q) h
  obtain ⟨ms, xs⟩ := mx_some (sureP t d n h p q) h
  have k5 := w_5 (l := l8) (b := b) (c := c8) (s2 := .val (.int B)) (s7 := s7) (s11 := s11) (show gIx (wyD (.st t d)) (.int 1) = some (fr t d) from rfl) (lspan_ok r (n := n) (by omega) (by omega) (by omega) pq xc xs)
  have k6 := w_6 (l := l8) (b := b) (c := c8) (s2 := .val (.int B)) (s7 := s7) (s11 := s11) (sspan_ok r (n := n) (by omega) (by omega) (by omega) (by omega) pq xc xs) ne_int2
  obtain ⟨vs, l9, c9, e9, hv, hn9⟩ := votes_ok l8 b c8 (M := 9) (by decide) (by decide)
  have k7 := w_7 (n := n) (h := (h : Int)) (W := wyD (.st t d)) (P := fr p q) (A := .int (ms : Int)) (B := .int (mc : Int)) (s2 := .val (.int B)) (s7 := s7) (s11 := s11) e9
  have k8 := w_8 (l := l9) (b := b) (c := c9) (n := n) (h := (h : Int)) (W := wyD (.st t d)) (P := fr p q) (A := .int (ms : Int)) (B := .int (mc : Int)) (s2 := .val (.int B)) (s7 := s7) (s11 := s11) (gSum_tv (vs := vs))
  have p1 := pq.p1; have p2 := pq.pq; have p3 := pq.q6
  have k9 := w_9 (l := l9) (b := b) (c := c9) (n := n) (h := (h : Int)) (T := vs.sum) (p := p) (q := q) (W := wyD (.st t d)) (A := .int (ms : Int)) (B := .int (mc : Int)) (V := tv vs) (s2 := .val (.int B)) (s7 := s7) (s11 := s11) (mulOk_l (by omega))
  obtain ⟨s14, k10⟩ := votes_row r (n := n) (by omega) (by omega) (show 1 ≤ h by omega) (by omega) pq hv (by omega) xc xs (l := l9) (b := b) (c := c9) (s2 := .val (.int B)) (s5 := .val (.int vs.sum)) (s7 := s7) (s11 := s11)
  obtain ⟨D6, l10, c10, m6, e10⟩ := law_pick_ok [.int 4, .int 30] (by decide) (by decide) l9 b c9
  obtain ⟨M6, rfl, M60, M61⟩ : ∃ M : Int, D6 = .int M ∧ 4 ≤ M ∧ M ≤ 30 := by
    simp only [List.mem_cons, List.not_mem_nil, or_false] at m6
    rcases m6 with rfl | rfl
    · exact ⟨4, rfl, by decide, by decide⟩
    · exact ⟨30, rfl, by decide, by decide⟩
  obtain ⟨v, l11, c11, e11, v0, v1⟩ := rolled l10 b c10 M6 (by omega) (by omega)
  have k11 := w_11 (n := n) (h := (h : Int)) (W := wyD (.st t d)) (P := fr p q) (A := .int (ms : Int)) (B := .int (mc : Int)) (s2 := .val (.int B)) (s4 := .val (tv vs)) (s5 := .val (.int vs.sum)) (s6 := .val (.int (p * vs.sum))) (s7 := s7) (s11 := s11) (s14 := s14) e10 e11
  obtain ⟨a, ha⟩ : ∃ a : Nat, 1 + v = (a : Int) := ⟨(1 + v).toNat, by omega⟩
  rw [ha] at k11
  have k12 := hses r (n := n) (by omega) (by omega) pq (a := a) (by omega) (l := l11) (b := b) (c := c11) (h := (h : Int)) (A := .int (ms : Int)) (B := .int (mc : Int)) (s2 := .val (.int B)) (s4 := .val (tv vs)) (s5 := .val (.int vs.sum)) (s6 := .val (.int (p * vs.sum))) (s11 := s11) (s14 := s14) (by omega)
  have k13 : (sRetU (uVal (eOp gEq (eCallL [false, false, false, false] 4 FP__law_met (aCons (aRefV 9) (aCons (aRefV 10) (aCons (aRefV 3) (aCons (aRefV 7) (aNil)))))) (eIf (eTB (eOpL gNe 8 (eOfF (eLstO (eNil))))) (eIxB 8 (eC (.int (0)))) (eTup (eCons (eC (.str "none")) (eNil))))))) (E5g l11 b c11 n (h : Int) (a : Int) (wyD (.st t d)) (fr p q) (.int (ms : Int)) (.int (mc : Int)) (.val (.int B)) (.val (tv vs)) (.val (.int vs.sum)) (.val (.int (p * vs.sum))) (.own false (natD (hseL t d n p q a))) s11 s14 .none) = .ok (.ret (.val (.bl true))) (E5g l11 b c11 n (h : Int) (a : Int) (wyD (.st t d)) (fr p q) (.int (ms : Int)) (.int (mc : Int)) (.val (.int B)) (.val (tv vs)) (.val (.int vs.sum)) (.val (.int (p * vs.sum))) (.own false (natD (hseL t d n p q a))) s11 s14 .none) := by
    cases hL : hseL t d n p q a with
    | nil => exact w_13n (met_x (hf_none r (by omega) (by omega) (by omega) (by omega) pq hL))
    | cons k ks =>
      exact w_13y (met_o (hf_some r (by omega) (by omega) (by omega) (by omega) pq hL)) (by rw [lst_neE (natD_shp _)]; rfl) w_at0
  refine ⟨l11, c11, ?_⟩
  unfold FP__law_right BP__law_right
  exact (congrArg (finF [dc l b c]) (seq_nx k0 (seq_nx k1 (seq_nx k2 (seq_nx k3 (seq_nx k4 (seq_nx k5 (seq_nx k6 (seq_nx k7 (seq_nx k8 (seq_nx k9 (seq_nx k10 (seq_nx k11 (seq_nx k12 (seq_rt k13))))))))))))))).trans rfl
end LW
set_option exponentiation.threshold 20000
namespace LW
open PySem PL L2
theorem fit2 {n : Nat} (h : n ≤ 100 := by decide) : fits n = true := fits_of (Nat.le_trans h (by decide))
theorem big_mul : mulOk 1000000000000000000000000000000000000000000000000000000000000 1000000000000000000000000000000000000000000000000000000000000 = true := by decide
theorem dice_ok {ns : List Int} {i : Int} (h0 : 0 ≤ i) : ∃ l b, FP__law_dice [.val (.rol (ns.map .int)), .val (.int i)] = .ok (.own false [.int l, .int b, .int 0]) [.none, .none] := by
  rw [← p__law_dice, e__law_dice]
  unfold B__law_dice
  obtain ⟨n, hn⟩ : ∃ n : Int, (ns.length : Int) = n := ⟨_, rfl⟩
  have hl : gLen [.rol (ns.map D.int)] = some (.int n) := by
    show some (D.int ((ns.map D.int).length : Int)) = _
    rw [List.length_map, hn]
  have cell : ∃ c : Int, (eIf (eTB (eOpL gLt 1 (eFnO gLen 0))) (eFn gInt (eCons (eIxB 0 (eVar 1)) (eNil))) (eOp gAdd (eOp gMulI (eC (.int (97))) (eVar 1)) (eC (.int (43))))) [.val (.rol (ns.map .int)), .val (.int i), .none, .none] = .ok (.int c) [.val (.rol (ns.map .int)), .val (.int i), .none, .none] := by
    have m : mulOk 97 i = true := mulOk_l (by decide)
    by_cases hi : i < n
    · have hj : i.toNat < ns.length := by omega
      have at_ : atI (ns.map D.int) i = some (.int ns[i.toNat]) := by
        have := atI_nat (xs := ns.map D.int) (j := i.toNat) (v := .int ns[i.toNat]) (by rw [List.getElem?_map, List.getElem?_eq_getElem hj]; rfl)
        rwa [Int.toNat_of_nonneg h0] at this
      exact ⟨ns[i.toNat], by simp [hl, hi, at_, -w_lenR]⟩
    · exact ⟨97 * i + 43, by simp [hl, hi, m, -w_lenR]⟩
  obtain ⟨c, hc⟩ := cell
  have m1 : ∀ z, mulOk z 37 = true := fun z => mulOk_r (by decide)
  have m2 : mulOk 859 i = true := mulOk_l (by decide)
  have m3 : ∀ z, mulOk 31 z = true := fun z => mulOk_l (by decide)
  have fin : ∃ l b, sSeq (sSetU 3 (uVal (eOp gMod (eFn gMax (eCons (eC (.int (0))) (eCons (eOp gSub (eFnB gAbs 2) (eOp gPow (eC (.int (10))) (eC (.int (17))))) (eNil)))) (eOp gMulI (eOp gPow (eC (.int (10))) (eC (.int (60)))) (eOp gPow (eC (.int (10))) (eC (.int (60)))))))) (sSeq (sRetU (uOwn (eLstO (eCons (eVar 3) (eCons (eOp gAdd (eOp gAdd (eOp gAdd (eOp gMulI (eOp gMod (eFnB gAbs 2) (eC (.int (1152921504606846737)))) (eC (.int (37)))) (eOp gMulI (eC (.int (859))) (eVar 1))) (eOp gMulI (eC (.int (31))) (eFn gInt (eCons (eOpL gLt 2 (eC (.int (0)))) (eNil))))) (eC (.int (17)))) (eCons (eC (.int (0))) (eNil))))))) (PL.ret .next)) [.val (.rol (ns.map .int)), .val (.int i), .val (.int c), .none] =
      .ok (.ret (.own false [.int l, .int b, .int 0])) [.val (.rol (ns.map .int)), .val (.int i), .val (.int c), .val (.int l)] := by
    refine ⟨(if (if c < 0 then -c else c) - 10 ^ (17 : Int).toNat > 0 then (if c < 0 then -c else c) - 10 ^ (17 : Int).toNat else 0) % (10 ^ (60 : Int).toNat * 10 ^ (60 : Int).toNat), (if c < 0 then -c else c) % 1152921504606846737 * 37 + 859 * i + 31 * (if decide (c < 0) then 1 else 0) + 17, ?_⟩
    simp [m1, m2, m3, big_mul, fit2]
  obtain ⟨l, b, hf⟩ := fin
  refine ⟨l, b, ?_⟩
  refine Eq.trans (congrArg (finF _) (seq_nx (env1 := [.val (.rol (ns.map .int)), .val (.int i), .val (.int c), .none]) ?_ hf)) ?_
  · simp only [envOf, N__law_dice]
    unfold sSetU
    have hc2 : uVal (eIf (eTB (eOpL gLt 1 (eFnO gLen 0))) (eFn gInt (eCons (eIxB 0 (eVar 1)) (eNil))) (eOp gAdd (eOp gMulI (eC (.int (97))) (eVar 1)) (eC (.int (43))))) [.val (.rol (ns.map .int)), .val (.int i), .none, .none] = .ok (.val (.int c)) [.val (.rol (ns.map .int)), .val (.int i), .none, .none] := by
      unfold uVal
      rw [bnd_ok hc]; rfl
    exact (bnd_ok hc2).trans rfl
  · rfl
theorem lim62_nat {m : Int} (h0 : 0 ≤ m) (h1 : m ≤ 1000) : lim62 m = true := by
  unfold lim62
  rw [decide_eq_true (by omega), decide_eq_true (by omega)]
  rfl
theorem rng1_nat {m : Int} (h0 : 0 ≤ m) (h1 : m ≤ 1000) : rng1 [.int m] = some (rngL 0 m.toNat) := by
  show (if lim62 m = true then some (rngL 0 m.toNat) else none) = _
  rw [if_pos (lim62_nat h0 h1)]
theorem rngL_mem {d : D} : ∀ (n : Nat) (k : Int), d ∈ rngL k n → ∃ j : Nat, d = .int (k + j)
  | 0, _, h => by cases h
  | n + 1, k, h => by
    rcases List.mem_cons.mp h with rfl | h
    · exact ⟨0, by simp⟩
    · obtain ⟨j, e⟩ := rngL_mem n (k + 1) h
      exact ⟨j + 1, by rw [e]; congr 1; omega⟩

abbrev EL (S s1 s5 s6 : SV) : PL.Env := [S, s1, .none, s5, s6, .none, .none]
def envA {α : Type} (r : R α) : PL.Env := match r with
  | .ok _ e => e
  | _ => []
def innerL : M O := (sFor (iRng rng1 (eCons (eC (.int (4))) (eNil))) (.nm 4) (sSeq (sIf (tNotM (eTru (eCall 1 FP__law_right (aCons (aRefV 3) (aNil))))) (sSeq (sRetU (uVal (eC (.bl false)))) (PL.ret .next)) (PL.ret .next)) (PL.ret .next)))
theorem inner_ok (S s1 s6 : SV) (l b c : Int) : ∃ s5 s6', innerL (EL S s1 (.own false [.int l, .int b, .int c]) s6) = .ok .next (EL S s1 s5 s6') := by
  obtain ⟨env', h1, l', b', c', t', h2⟩ := forL_inv (t := .nm 4) (b := (sSeq (sIf (tNotM (eTru (eCall 1 FP__law_right (aCons (aRefV 3) (aNil))))) (sSeq (sRetU (uVal (eC (.bl false)))) (PL.ret .next)) (PL.ret .next)) (PL.ret .next))) (fun _ env => ∃ l b c t, env = EL S s1 (.own false [.int l, .int b, .int c]) t) (rngL 0 4) (EL S s1 (.own false [.int l, .int b, .int c]) s6) ⟨l, b, c, s6, rfl⟩ (by
    rintro d ds env ⟨l, b, c, t, rfl⟩
    obtain ⟨l', c', e⟩ := right_ok l b c
    exact ⟨_, EL S s1 (.own false [.int l', .int b, .int c']) (.val d), rfl, by simp [EL, e], l', b, c', .val d, rfl⟩)
  subst h2
  refine ⟨.own false [.int l', .int b', .int c'], t', ?_⟩
  have f : (iRng rng1 (eCons (eC (.int (4))) (eNil))) (EL S s1 (.own false [.int l, .int b, .int c]) s6) = .ok (rngL 0 4) (EL S s1 (.own false [.int l, .int b, .int c]) s6) := rfl
  unfold innerL sFor
  rw [bnd_ok f]
  exact h1
theorem tail_ok (S s1 s5 s6 : SV) : ∃ env', (sSeq (sAsg (.tp [(.nm 5), (.nm 6)]) (eTup (eCons (eTup (eCons (eC (.str "step")) (eCons (eTup (eCons (eC (.int (1))) (eCons (eC (.int (2))) (eNil)))) (eNil)))) (eCons (eTup (eCons (eC (.str "step")) (eCons (eTup (eCons (eC (.int (1))) (eCons (eC (.int (1))) (eNil)))) (eNil)))) (eNil))))) (sSeq (sSetU 2 (uOwn (eLstO (eCons (eCallL [false, false, false, false] 4 FP_seats_span (aCons (aRefV 6) (aCons (aVal (eC (.int (2)))) (aCons (aVal (eC (.int (3)))) (aCons (aVal (eTup (eCons (eC (.int (1))) (eCons (eC (.int (4))) (eNil))))) (aNil)))))) (eCons (eCallL [false, false, false, false] 4 FP_seats_span (aCons (aRefV 5) (aCons (aVal (eC (.int (2)))) (aCons (aVal (eC (.int (3)))) (aCons (aVal (eTup (eCons (eC (.int (1))) (eCons (eC (.int (2))) (eNil))))) (aNil)))))) (eCons (eCallL [false, false, false, false] 4 FP_house_from (aCons (aRefV 6) (aCons (aVal (eC (.int (2)))) (aCons (aVal (eTup (eCons (eC (.int (1))) (eCons (eC (.int (4))) (eNil))))) (aCons (aVal (eC (.int (1)))) (aNil)))))) (eNil))))))) (sSeq (sRetU (uVal (eAndV (eOpL gEq 2 (eOfF (eLstO (eCons (eTup (eCons (eC (.int (0))) (eCons (eC (.int (1))) (eNil)))) (eCons (eTup (eCons (eC (.int (1))) (eCons (eC (.int (2))) (eNil)))) (eCons (eC (.int (3))) (eNil))))))) (eOp gEq (eCallL [false, false, false, false] 4 FP_seats_span (aCons (aRefV 5) (aCons (aVal (eC (.int (3)))) (aCons (aVal (eC (.int (7)))) (aCons (aVal (eTup (eCons (eC (.int (7))) (eCons (eC (.int (13))) (eNil))))) (aNil)))))) (eTup (eCons (eC (.int (3))) (eCons (eC (.int (4))) (eNil)))))))) (PL.ret .next)))) (EL S s1 s5 s6) = .ok (.ret (.val (.bl true))) env' ∧ env'[0]? = some S := ⟨envA ((sSeq (sAsg (.tp [(.nm 5), (.nm 6)]) (eTup (eCons (eTup (eCons (eC (.str "step")) (eCons (eTup (eCons (eC (.int (1))) (eCons (eC (.int (2))) (eNil)))) (eNil)))) (eCons (eTup (eCons (eC (.str "step")) (eCons (eTup (eCons (eC (.int (1))) (eCons (eC (.int (1))) (eNil)))) (eNil)))) (eNil))))) (sSeq (sSetU 2 (uOwn (eLstO (eCons (eCallL [false, false, false, false] 4 FP_seats_span (aCons (aRefV 6) (aCons (aVal (eC (.int (2)))) (aCons (aVal (eC (.int (3)))) (aCons (aVal (eTup (eCons (eC (.int (1))) (eCons (eC (.int (4))) (eNil))))) (aNil)))))) (eCons (eCallL [false, false, false, false] 4 FP_seats_span (aCons (aRefV 5) (aCons (aVal (eC (.int (2)))) (aCons (aVal (eC (.int (3)))) (aCons (aVal (eTup (eCons (eC (.int (1))) (eCons (eC (.int (2))) (eNil))))) (aNil)))))) (eCons (eCallL [false, false, false, false] 4 FP_house_from (aCons (aRefV 6) (aCons (aVal (eC (.int (2)))) (aCons (aVal (eTup (eCons (eC (.int (1))) (eCons (eC (.int (4))) (eNil))))) (aCons (aVal (eC (.int (1)))) (aNil)))))) (eNil))))))) (sSeq (sRetU (uVal (eAndV (eOpL gEq 2 (eOfF (eLstO (eCons (eTup (eCons (eC (.int (0))) (eCons (eC (.int (1))) (eNil)))) (eCons (eTup (eCons (eC (.int (1))) (eCons (eC (.int (2))) (eNil)))) (eCons (eC (.int (3))) (eNil))))))) (eOp gEq (eCallL [false, false, false, false] 4 FP_seats_span (aCons (aRefV 5) (aCons (aVal (eC (.int (3)))) (aCons (aVal (eC (.int (7)))) (aCons (aVal (eTup (eCons (eC (.int (7))) (eCons (eC (.int (13))) (eNil))))) (aNil)))))) (eTup (eCons (eC (.int (3))) (eCons (eC (.int (4))) (eNil)))))))) (PL.ret .next)))) (EL S s1 s5 s6)), by kernel_rfl, by kernel_rfl⟩
theorem law_true (ns : List Int) (hlen : ns.length ≤ 63) : ∃ outs, F_law [.val (.rol (ns.map D.int))] = .ok (.val (.bl true)) outs := by
  rw [p_law]
  unfold FP_law BP_law
  obtain ⟨n, hn⟩ : ∃ n : Int, (ns.length : Int) = n := ⟨_, rfl⟩
  have hl : gLen [.rol (ns.map D.int)] = some (.int n) := by
    show some (D.int ((ns.map D.int).length : Int)) = _
    rw [List.length_map, hn]
  obtain ⟨m, hm, m1, m2⟩ : ∃ m : Int, (eCons (eFn gMax (eCons (eC (.int (1))) (eCons (eFn gMin (eCons (eC (.int (4))) (eCons (eFnO gLen 0) (eNil)))) (eNil)))) (eNil)) (EL (.val (.rol (ns.map .int))) .none .none .none) = .ok [.int m] (EL (.val (.rol (ns.map .int))) .none .none .none) ∧ 0 ≤ m ∧ m ≤ 1000 := by
    by_cases h5 : n < 4
    · by_cases h6 : 1 < n
      · exact ⟨n, by simp [EL, hl, h5, h6, -w_lenR], by omega, by omega⟩
      · exact ⟨1, by simp [EL, hl, h5, h6, -w_lenR], by omega, by omega⟩
    · exact ⟨4, by simp [EL, hl, h5, -w_lenR], by omega, by omega⟩
  have f : (iRng rng1 (eCons (eFn gMax (eCons (eC (.int (1))) (eCons (eFn gMin (eCons (eC (.int (4))) (eCons (eFnO gLen 0) (eNil)))) (eNil)))) (eNil))) (EL (.val (.rol (ns.map .int))) .none .none .none) = .ok (rngL 0 m.toNat) (EL (.val (.rol (ns.map .int))) .none .none .none) := by
    unfold iRng
    rw [bnd_ok hm, rng1_nat m1 m2]
    exact w_lifS
  obtain ⟨env', h1, s1, s5, s6, h2, _⟩ := forL_inv (t := .nm 1) (b := (sSeq (sSetU 3 (uCallL [false, false] 2 FP__law_dice (aCons (aRefV 0) (aCons (aRefV 1) (aNil))))) (sSeq innerL (PL.ret .next)))) (fun ds env => ∃ s1 s5 s6, env = EL (.val (.rol (ns.map .int))) s1 s5 s6 ∧ ∀ d ∈ ds, ∃ i : Int, d = .int i ∧ 0 ≤ i) (rngL 0 m.toNat) (EL (.val (.rol (ns.map .int))) .none .none .none) ⟨.none, .none, .none, rfl, fun d hd => by
      obtain ⟨j, e⟩ := rngL_mem _ _ hd
      exact ⟨_, e, by omega⟩⟩ (by
    rintro d ds env ⟨s1, s5, s6, rfl, hd⟩
    obtain ⟨i, rfl, hi⟩ := hd d (List.mem_cons_self ..)
    obtain ⟨l, b, e⟩ := dice_ok (ns := ns) hi
    obtain ⟨s5', s6', e2⟩ := inner_ok (.val (.rol (ns.map .int))) (.val (.int i)) s6 l b 0
    refine ⟨_, EL (.val (.rol (ns.map .int))) (.val (.int i)) s5' s6', rfl, ?_, .val (.int i), s5', s6', rfl, fun d' hd' => hd d' (List.mem_cons_of_mem _ hd')⟩
    refine seq_nx (env1 := EL (.val (.rol (ns.map .int))) (.val (.int i)) (.own false [.int l, .int b, .int 0]) s6) ?_ (seq_nx e2 rfl)
    have hc : callL [false, false] 2 FP__law_dice [.val (.rol (ns.map .int)), .val (.int i)] (EL (.val (.rol (ns.map .int))) (.val (.int i)) s5 s6) = .ok (.own false [.int l, .int b, .int 0]) (EL (.val (.rol (ns.map .int))) (.val (.int i)) s5 s6) := by
      show (match FP__law_dice [.val (.rol (ns.map .int)), .val (.int i)] with | .ok r outs => _ | .exc x outs => _ | .stuck => _) = _
      rw [e]; rfl
    have hu : uCallL [false, false] 2 FP__law_dice (aCons (aRefV 0) (aCons (aRefV 1) (aNil))) (EL (.val (.rol (ns.map .int))) (.val (.int i)) s5 s6) = .ok (.own false [.int l, .int b, .int 0]) (EL (.val (.rol (ns.map .int))) (.val (.int i)) s5 s6) := by
      unfold uCallL
      rw [bnd_ok (show aCons (aRefV 0) (aCons (aRefV 1) (aNil)) (EL (.val (.rol (ns.map .int))) (.val (.int i)) s5 s6) = .ok [.val (.rol (ns.map .int)), .val (.int i)] (EL (.val (.rol (ns.map .int))) (.val (.int i)) s5 s6) from rfl), bnd_ok hc]
      rfl
    unfold sSetU
    exact (bnd_ok hu).trans rfl)
  subst h2
  obtain ⟨env2, e1, e2⟩ := tail_ok (.val (.rol (ns.map .int))) s1 s5 s6
  have st : sFor ((iRng rng1 (eCons (eFn gMax (eCons (eC (.int (1))) (eCons (eFn gMin (eCons (eC (.int (4))) (eCons (eFnO gLen 0) (eNil)))) (eNil)))) (eNil)))) (.nm 1) (sSeq (sSetU 3 (uCallL [false, false] 2 FP__law_dice (aCons (aRefV 0) (aCons (aRefV 1) (aNil))))) (sSeq innerL (PL.ret .next))) (EL (.val (.rol (ns.map .int))) .none .none .none) = .ok .next (EL (.val (.rol (ns.map .int))) s1 s5 s6) := by
    unfold sFor
    rw [bnd_ok f]
    exact h1
  refine ⟨[.none], Eq.trans (congrArg (finF _) (seq_nx st e1)) ?_⟩
  cases env2 with
  | nil => simp at e2
  | cons s r => rfl
end LW

open PySem PySem.W PySem.Calls PyProof.Rows
theorem PySem.Challenge.cw_seatsdue_k52_whole_spans_of_seats_holds : PySem.Challenge.rw_seatsdue_k52_whole_spans_of_seats.Holds := by
  w_on; o_law
  refine HandSHeadRun.head_any (r := OpenLaw.row PySem.Challenge.rw_seatsdue_k52_whole_spans_of_seats) (q := view (OpenLaw.row PySem.Challenge.rw_seatsdue_k52_whole_spans_of_seats).prog [68]) (H := LW.hk) (ob := LW.ob) (M := 4000) (loose := LW.loo) (d := HandSHeadRun.topDef (OpenLaw.row PySem.Challenge.rw_seatsdue_k52_whole_spans_of_seats).prog 68) (kwd := []) LW.ob_eq
    (by kernel_rfl) (fun s => by kernel_rfl) LW.run (by kernel_rfl) (by kernel_rfl) (by kernel_rfl) (by rfl) (by first | assumption | decide +kernel) (by decide +kernel) ⟨rfl, rfl, rfl, rfl, rfl, by decide +kernel⟩ ?hw ?hc
  case hw => w_witness2
  case hc =>
    refine PL.walk_law (l := PySem.Challenge.rw_seatsdue_k52_whole_spans_of_seats) (n := 63) (k := 47) (x := "script") rfl (by decide) (by kernel_rfl) ⟨rfl, by decide, by decide⟩ ?F
    intro w mg fL h Y G hmg0
    obtain ⟨K, KX, c⟩ := Y
    have hmg : mg ("law" : PySem.Str) = some (.ref fL) := by
      have e : (HandSHeadRun.topDef (OpenLaw.row PySem.Challenge.rw_seatsdue_k52_whole_spans_of_seats).prog 68).name = ("law" : PySem.Str) := by kernel_rfl
      rw [← e]
      exact hmg0
    obtain ⟨fd, hb, hF⟩ := LW.facts (w := w) KX G hmg c
    obtain ⟨u1, u2, u3, u4⟩ := PL.tabs_of (fl := LW.fls) (mg := mg) KX c
    exact ⟨LW.GG K mg, fd, LW.F_law, rfl, KX, u1, u2, u3, u4, hb, LW.law_true, hF⟩
